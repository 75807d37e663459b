/- Part 5 of proofs that are told in their last texts. -/
import Derived.Test.YthgncfaljaocoaaGreatDoorY4
import Derived.IntWalk
import Derived.Laws.IdiomStrings
import Derived.Test.YthgncfaljaocoaaGreatDoorProg
import Derived.KernelRfl
import Derived.Test.YthgncfaljaocoaaGreatDoorY1
import Derived.Test.YthgncfaljaocoaaGreatDoorY2
import Derived.Deep.Slices
import Derived.Deep.Fields
import Derived.ChangeSame
import Derived.Lib.SmallJoins
import Derived.SliceStrings
import Derived.ChangeSlices
import Derived.Lib.LaidU8
import Derived.Shelf.Vars
import Derived.Test.YthgncfaljaocoaaGreatDoorY3
import Derived.Laws.Bits128
import Derived.Lib.AppendStr
open List (eq_nil_of_length_eq_zero ext_getElem flatten_cons getElem?_append_left getElem?_eq_getElem getElem?_map getElem?_set getElem_mem length_append length_cons length_map length_nil map_map mem_map mem_of_getElem? take_add_one take_length take_of_length_le)
set_option linter.unusedVariables false
set_option linter.unusedSimpArgs false
set_option maxRecDepth 100000
namespace Go.Xg
open Go.RowKit Go.Xw
section
variable {P:Program} {m:Nat} {Q:dR} {fr:List GV} {Γ:List Ob} {ops:Array Oper} {rest:List Oper} {d:Option Tmp} {op:Op} {ty:TypeId} {pos:String} {af:Array Edge}
theorem GW.join {c y:Code} (K:List GV->List Ob->Prop) (h1:GW P m c (aQ (yP m K) Q) fr Γ) (h2:∀ fr Γ,K fr Γ->GW P m y Q fr Γ):GW P m c (aQ (GW P m y Q) Q) fr Γ:=by
 refine h1.mono fun e fr Γ hq=>?_
 cases e with
 | normal=>obtain ⟨bM,aD,hw,hk⟩:=hq;exact GW.wk hw (h2 _ _ hk)
 | _=>exact hq
theorem YG.fy {x y:Operand} {t e:TypeId} {k:Nat} [hT:mF P t e k] {rows:List (List GV)} {kk:IntKind} {n:Int} {i:Nat} {r:List GV} (hx:aM fr x=.sl k rows) (hy:aM fr y=.v (.int kk n)) (hr:rows[i]?=some r) (hi:n=(i:Int)):YG P (.indexAddr t x y) fr Γ (.box r 0):=by
 subst hi;exact YG.oA hx hy hr
def mP:List (List GV)->Bool
 | []=>true
 | r::rs=>lZ r&&mP rs
theorem Bd {rows:List (List GV)} (h:mP rows=true):lZ rows.flatten=true:=by
 induction rows with
 | nil=>rfl
 | cons r rs ih =>
  simp only [mP,Bool.and_eq_true] at h
  have WJ:∀ (a b:List GV),lZ a=true->lZ b=true->lZ (a++b)=true:=by
   intro a
   induction a with
   | nil=>intro b _ hb;exact hb
   | cons x a xG =>
    intro b ha hb;simp only [lZ,Bool.and_eq_true] at ha;simp only [List.cons_append,lZ,Bool.and_eq_true];exact ⟨ha.1,xG b ha.2 hb⟩
  rw [flatten_cons];exact WJ _ _ h.1 (ih h.2)
theorem GL.app {s x:Operand} {t e k gS:Nat} [hT:n7 P t e k gS] {i n fz:Nat} {rows news:List (List GV)} (hx:aM fr x=.sl k news) (hs:aM fr s=.vec i n) (br:Γ[i]?=some (.vec e k fz rows)) (hn:rows.length=n) (h1:mP news=true) (bN:news.isEmpty=false)
  (hb:n+news.length<=9223372036854775807/\(n+news.length) * gS<=140737488355328)
  (h:GL P m ops Q rest (bf fr d (.vec i (n+news.length))) (oset Γ i (.vec e k fz (rows++news)))) :
  GL P m ops Q (⟨d,.call ⟨.builtin .append,#[s,x],#[t,t]⟩,ty,pos,af,none⟩::rest) fr Γ:=fun B K β w l hm hI hF=>by
 subst hn
 have bN:news≠[]:=by intro h0;rw [h0] at bN;cases bN
 obtain ⟨h0,xs,o1,o2,o3,o4,o5,o6⟩:=hI.ob i _ br;have sK:=hF.ev s;rw [hs] at sK
 have qc:ev l s=h0:=by
  generalize hv:ev l s=v at sK
  cases sK with
  | vec _ _ a c hh =>
   obtain ⟨h',m',e1,e2,e3⟩:=hh;rw [o1] at e1;cases e1;exact e3 rfl
 have sN:=hF.ev x;rw [hx] at sN;generalize rl:ev l x=v at sN
 cases sN with
 | sl0 a c k=>exact absurd rfl bN
 | sl b o c _ _ hr _ =>
  have jO:gi k news:=fun r LI=>by
   obtain ⟨j,hj⟩:=List.mem_iff_getElem?.1 LI;refine ⟨(hr j r hj).1,fun g hg=>?_⟩;obtain ⟨q,hq⟩:=List.mem_iff_getElem?.1 hg;exact (hI.fz _ _ _ ((hr j r hj).2 q g hq)).1
  have yv:∀ (rows:List (List GV)) (o:Nat),(∀ (j:Nat) r,rows[j]?=some r->r.length=k/\∀ (q:Nat) g,r[q]?=some g->K b (o+j * k+q)=some g)->∀ (q:Nat) g,rows.flatten[q]?=some g->K b (o+q)=some g:=by
   intro rows
   induction rows with
   | nil=>intro o _ q g hg;simp at hg
   | cons r rows ih =>
    intro o h q g hg;rw [flatten_cons] at hg;have hl:=(h 0 r rfl).1
    by_cases hq:q < r.length
    ·rw [getElem?_append_left hq] at hg;have:=(h 0 r rfl).2 q g hg;simpa using this
    ·rw [List.getElem?_append_right (by omega),hl] at hg
     have:=ih (o+k) (fun j r' hj=>by
      have:=h (j+1) r' (by simpa using hj);refine ⟨this.1,fun q g hg=>?_⟩;have:=this.2 q g hg
      rw [show o+(j+1) * k+q=o+k+j * k+q by rw [Nat.succ_mul];omega] at this;exact this) (q - k) g hg
     rw [show o+k+(q - k)=o+q by omega] at this;exact this
  obtain ⟨us,jr,kx⟩:=vP (K:=K) (β:=β) (H:=w.heap) (b:=b) news.flatten o (fun j g hj=>by
   obtain ⟨hp,u,hu,eO⟩:=hI.fz _ _ _ (yv news o (fun j r hj=>hr j r hj) j g hj)
   exact ⟨u,hu,eO.pc hp⟩)
  have CW:us.length=news.length * k:=by
   rw [jr.1,List.length_flatten]
   have:∀ (rows:List (List GV)),gi k rows->(rows.map List.length).sum=rows.length * k:=by
    intro rows
    induction rows with
    | nil=>intro _;simp
    | cons r rows ih =>
     intro hk;rw [List.map_cons,List.sum_cons,ih (fun r hr=>hk r (List.mem_cons_of_mem _ hr)),(hk r (List.mem_cons_self)).1,length_cons,Nat.succ_mul];omega
   exact this news jO
  refine WL.app (base:=0) (v:=h0) (n:=rows.length) (m:=news.length) (xs:=xs) (news:=us) qc o2 rl CW (fun j u hj=>by rw [eY];exact kx j u hj) (jr.lr (Bd h1)) hb.1 hb.2 (Nat.zero_le _) ?_;intro v' w' how gC tQ vb
  obtain ⟨K',hK,qd,bc⟩:=hI.grow br o1 ⟨o2,o3⟩ (news:=news) (ns:=us) how gC tQ jr jO bN (fun b aY o v ho hv=>by
   rcases vb with h7 | h7
   ·exact h7.c hv (fun h=>h)
   ·have ig:o < xs.length:=by rw [o2.1];exact Nat.lt_of_lt_of_le ho (Nat.mul_le_mul_right k o6)
    obtain ⟨b2,c2,oQ,_,_,jB⟩:=o2.cells.2 (by intro h0;rw [h0] at ig;simp at ig)
    have eG:b2=b:=by rw [oQ] at aY;cases aY;rfl
    subst eG;have CY:=jB o xs[o] (by simp [ig]);rw [eY,hv] at CY;cases CY;obtain ⟨b3,c3,Lx,_,_,Lt⟩:=how.cells.2 (by intro h0;have:xs=[]:=(List.append_eq_nil_iff.1 h0).1;rw [this] at ig;simp at ig)
    have xp:b3=b2:=by rw [Lx,aY] at h7;cases h7;rfl
    subst xp
    rw [<-eY];exact Lt o _ (by rw [getElem?_append_left ig];simp [ig]))
  rw [<-aV] at bc;refine h B K' _ w' _ hm bc ((hF.mono hK qd).put d ?_);obtain ⟨a,c,rfl⟩:=how.shape;exact .vec i _ a c ⟨_,_,bh,by simp,fun _=>by simp⟩
theorem Wk.Fh {i o:Nat} {T:TypeId} {cs:List GV} (E k:Nat) (hi:Γ[i]?=some (.box T cs)) (ho:cs[o]?=some (.v (.slice none 0 0))):Wk m fr Γ fr (oset Γ i (.box T (bg cs o (.vec Γ.length 0)))++[.vec E k 0 []]):=fun B K β w l hm hI hF=>by
 have bV:β Γ.length=.no:=hI.out _ (Nat.le_refl _);have ao:i < Γ.length:=(List.getElem?_eq_some_iff.1 hi).1;have bc:=hI.Bz (w':=w) (E:=E) (k:=k) (x:=.slice none 0 0) (xs:=[]) (rows:=[]) (Ext.refl w) (gQ.nil w 0 E k) (fun b hb=>by cases hb) aU.nil (fun r hr=>by cases hr);have hle:de β (eT β Γ.length (.gr (.slice none 0 0) ([]:List (List GV)).length)):=gJ (by rw [bV];trivial);refine ⟨K,_,⟨bc.ext,bc.kle,bc.ble,bc.loc,bc.fz,fun j x hj=>?_,fun j hj=>bc.out j (by simp [aV] at hj |-;exact hj),bc.dis,bc.own,bc.kn,bc.tab⟩,hF.mono (cw.refl K) hle⟩
 by_cases hji:j=i
 ·subst hji;rw [getElem?_append_left (by simp [aV];exact ao),aV,getElem?_set] at hj;simp [ao] at hj;subst hj;obtain ⟨b,vs,h1,h2,h3,h4⟩:=bc.ob j (.box T cs) (by rw [getElem?_append_left ao];exact hi);refine ⟨b,vs,h1,h2,?_,h4⟩
  have gen:∀ (vs:List Value) (cs:List GV) (o:Nat),aU K (eT β Γ.length (.gr (.slice none 0 0) ([]:List (List GV)).length)) vs cs->cs[o]?=some (.v (.slice none 0 0))->aU K (eT β Γ.length (.gr (.slice none 0 0) ([]:List (List GV)).length)) vs (bg cs o (.vec Γ.length 0)):=by
   intro vs
   induction vs with
   | nil=>intro cs o h ho;have:cs=[]:=eq_nil_of_length_eq_zero h.1.symm;subst this;simp at ho
   | cons v vs ih =>
    intro cs o h ho
    cases cs with
    | nil=>simp at ho
    | cons c cs =>
     obtain ⟨a1,a2⟩:=h.ou
     cases o with
     | zero =>
      cases ho;have hv:=Rel.eg a1;subst hv;exact .cons (.vec _ 0 none 0 ⟨_,_,bh,Nat.le_refl _,fun _=>rfl⟩) a2
     | succ o=>exact .cons a1 (ih cs o a2 (by simpa using ho))
  exact gen vs cs o h3 ho
 ·refine bc.ob j x ?_
  by_cases xy:j < Γ.length
  ·rw [getElem?_append_left (by simp [aV];exact xy),aV,getElem?_set,if_neg (fun e=>hji e.symm)] at hj;rw [getElem?_append_left xy];exact hj
  ·rw [List.getElem?_append_right (by simp [aV];omega)] at hj;rw [List.getElem?_append_right (by omega)];simpa [aV] using hj
theorem Wk.wG {i o j n E k fz:Nat} {T:TypeId} {cs:List GV} {rows:List (List GV)} (hi:Γ[i]?=some (.box T cs)) (ho:cs[o]?=some (.vec j n)) (gx:Nat.beq i j=false) (hj:Γ[j]?=some (.vec E k fz rows)) (hn:rows.length=n):Wk m fr Γ fr (oset (oset Γ j (.vec E k n rows)) i (.box T (bg cs o (.sl k rows)))):=fun B K β w l hm hI hF=>by
 subst hn
 have bN:i≠j:=by intro e;subst e;simp at gx
 obtain ⟨h0,xs,o1,o2,o3,o4,o5,o6⟩:=hI.ob j _ hj;obtain ⟨K',hK,wR,bc⟩:=hI.hY hj;rw [<-aV] at bc;refine ⟨K',β,⟨bc.ext,bc.kle,bc.ble,bc.loc,bc.fz,fun q x hq=>?_,fun q hq=>bc.out q (by simpa [aV] using hq),bc.dis,bc.own,bc.kn,bc.tab⟩,hF.mono hK (de.refl β)⟩
 by_cases hqi:q=i
 ·subst hqi;have ao:q < Γ.length:=(List.getElem?_eq_some_iff.1 hi).1;rw [aV,getElem?_set] at hq;simp [aV,ao] at hq;subst hq;obtain ⟨b,vs,h1,h2,h3,h4⟩:=bc.ob q (.box T cs) (by rw [aV,getElem?_set,if_neg (fun e=>bN e.symm)];exact hi);refine ⟨b,vs,h1,h2,?_,h4⟩
  have gen:∀ (vs:List Value) (cs:List GV) (o:Nat),aU K' β vs cs->cs[o]?=some (.vec j rows.length)->aU K' β vs (bg cs o (.sl k rows)):=by
   intro vs
   induction vs with
   | nil=>intro cs o h ho;have:cs=[]:=eq_nil_of_length_eq_zero h.1.symm;subst this;simp at ho
   | cons v vs ih =>
    intro cs o h ho
    cases cs with
    | nil=>simp at ho
    | cons c cs =>
     obtain ⟨a1,a2⟩:=h.ou
     cases o with
     | zero =>
      cases ho;refine .cons ?_ a2
      cases a1 with
      | vec _ _ a c hh =>
       obtain ⟨h',m',e1,e2,e3⟩:=hh;rw [o1] at e1;cases e1;have e4:=e3 rfl
       rcases o2.2 with ⟨e5,e6⟩ | ⟨g,cap,cu,e5,_,_,p7,_⟩
       ·have:rows=[]:=eq_nil_of_length_eq_zero e6;subst this;exact .sl0 _ _ _
       ·rw [e5] at e4;cases e4;refine .sl g 0 _ k rows (fun j r hr=>⟨(o4 r (mem_of_getElem? hr)).1,fun q g' lj=>?_⟩) p7;rw [Nat.zero_add];exact wR _ g o1 (by rw [e5];rfl) _ g' (s9 o4 hr lj)
     | succ o=>exact .cons a1 (ih cs o a2 (by simpa using ho))
  exact gen vs cs o h3 ho
 ·rw [aV,getElem?_set,if_neg (fun e=>hqi e.symm)] at hq;exact bc.ob q x hq
end
end Go.Xg
namespace Go.Xg
open Go.RowKit Go.Xw
class II (P:Program) (t:TypeId) (k:outParam IntKind):Prop where
 und:P.underlying t=some (.int k)
class J7 (P:Program) (t:TypeId):Prop where
 und:∃ e,P.underlying t=some (.slice e)/\P.underlying e=some (.int .u8)
theorem J7.mk' {P:Program} {t e:TypeId} (h:P.underlying t=some (.slice e)) (k:P.underlying e=some (.int .u8)):J7 P t:=⟨e,h,k⟩
section
variable {P:Program} {m:Nat} {Q:dR} {fr:List GV} {Γ:List Ob} {ops:Array Oper} {rest:List Oper} {d:Option Tmp} {op:Op} {ty:TypeId} {pos:String} {af:Array Edge}
theorem YG.tq {x y:Operand} {t t':TypeId} {a b:Int} (hx:aM fr x=.v (.int .u8 a)) (hy:aM fr y=.v (.int .u8 b)) (hb:0<=a - b/\a - b<=255):YG P (.binOp .sub t x y t') fr Γ (.v (.int .u8 (a - b))) :=
 YG.v2 hx hy fun l w h k d ty pos af=>by simp [execOp,eqGuard,h,k,binOp,Op.intArith,IntWalk.u8_in _ hb]
theorem YG.quo {x y:Operand} {t t':TypeId} {a b:Int} (hx:aM fr x=.v (ii a)) (hy:aM fr y=.v (ii b)) (hb:0<=a/\a<=9223372036854775807/\1<=b):YG P (.binOp .quo t x y t') fr Γ (.v (ii (a / b))) :=
 YG.v2 hx hy fun l w h k d ty pos af=>by
  have bN:b≠0:=by omega
  simp [execOp,eqGuard,h,k,binOp,Op.intDiv,bN,IntWalk.i64_quo a b hb]
theorem YG.rem {x y:Operand} {t t':TypeId} {a b:Int} (hx:aM fr x=.v (ii a)) (hy:aM fr y=.v (ii b)) (hb:0<=a/\1<=b):YG P (.binOp .rem t x y t') fr Γ (.v (ii (a % b))) :=
 YG.v2 hx hy fun l w h k d ty pos af=>by
  have bN:b≠0:=by omega
  simp [execOp,eqGuard,h,k,binOp,Op.intDiv,bN,IntWalk.rem_in a b hb.1]
theorem YG.xf {x:Operand} {s t:TypeId} {k k':IntKind} {a:Int} [hS:II P s k'] [hT:II P t k] (hx:aM fr x=.v (.int k' a)) (hw:k.wrap a=a):YG P (.convert s t x) fr Γ (.v (.int k a)) :=
 YG.v1 hx fun l w h d ty pos af=>by simp [execOp,h,convert,run_underlying hS.und,run_underlying hT.und,Conv.intToInt,hw]
theorem YG.str {x:Operand} {s t:TypeId} {l:ae} {rows:List (List GV)} [hS:J7 P s] [hT:o8 P t] (hx:aM fr x=.sl 1 rows) (hr:rows=l.map fun c=>[.v (.int .u8 (c.toNat:Int))]):YG P (.convert s t x) fr Γ (.v (sv l)):=fun B K β w fl hI hF=>by
 subst hr;obtain ⟨e,h1,h2⟩:=hS.und;have h:=hF.ev x;rw [hx] at h;generalize hv:ev fl x=v at h;refine ⟨_,fun d ty pos af=>?_,.v _⟩
 have key:(convert s t v).run P w=.ok (sv l) w:=by
  generalize jO:(l.map fun c=>[GV.v (.int .u8 (c.toNat:Int))])=rows at h
  cases h with
  | sl0 a c =>
   have:l=[]:=by cases l with | nil=>rfl | cons x l=>simp at jO
   subst this
   cases a with
   | none=>rw [run_convert_bytes_string w s t e none 0 c h1 h2 hT.und];simp [Conv.bytesToString];rfl
   | some a=>exact run_convert_bytes_back w s t e a c [] h1 h2 hT.und (fun j hj=>by simp at hj)
  | sl b o c _ _ hc _ =>
   have hl:rows.length=l.length:=by rw [<-jO];simp
   rw [hl];refine run_convert_bytes_back w s t e ⟨b,o,none⟩ c l h1 h2 hT.und (fun j hj=>?_)
   have bj:rows[j]?=some [GV.v (.int .u8 (l[j].toNat:Int))]:=by rw [<-jO];simp [hj]
   obtain ⟨_,u,hu,eO⟩:=hI.fz _ _ _ ((hc j _ bj).2 0 _ rfl);rw [pb,eY];have:=Rel.eg eO;subst this;simpa using hu
 simp [execOp,hv,key]
end
end Go.Xg
namespace Go.Xg
open Go.RowKit Go.Xw
structure Hid (B:Prop):Prop where
 h:B
structure si (aI:List Nat) (C:Prop):Prop where
 h:C
section
variable {P:Program} {m:Nat} {ops:Array Oper} {Q:dR} {rest:List Oper} {fr:List GV} {Γ:List Ob} {d:Option Tmp} {ty:TypeId} {pos:String} {af:Array Edge}
theorem GL.uP {f:FuncId} [hf:az P f] {aI:List Nat} {args:List Operand} {mj:Array TypeId} {gs:List GV} {gL qG:List Ob} {g:GV} (hc:si aI (GF P f gs gL g qG)) (ha:kD (args.map (aM fr)) (lx (bJ aI Γ.length) gs)) (fc:ic aI Γ.length=true)
  (br:seen (bJ aI Γ.length) Γ aI gL) (hl:Nat.ble aI.length qG.length=true) (h:GL P m ops Q rest (bf fr d (dx (bJ aI Γ.length) g)) (dM Γ aI (qG.map (Ob.dx (bJ aI Γ.length))))) :
  GL P m ops Q (⟨d,.call ⟨.value (.func f),args.toArray,mj⟩,ty,pos,af,none⟩::rest) fr Γ:=GL.Uw aI hc.h ha fc br hl h
theorem GL.R5 {f:FuncId} [hf:az P f] {aI:List Nat} {args:List Operand} {mj:Array TypeId} {gs:List GV} {gL:List Ob} {R:GV->List Ob->Prop} (hc:si aI (GC P f gs gL R)) (ha:kD (args.map (aM fr)) (lx (bJ aI Γ.length) gs)) (fc:ic aI Γ.length=true)
  (br:seen (bJ aI Γ.length) Γ aI gL) (h:∀ g aD,R g aD->aI.length<=aD.length/\GL P m ops Q rest (bf fr d (dx (bJ aI Γ.length) g)) (dM Γ aI (aD.map (Ob.dx (bJ aI Γ.length))))) :
  GL P m ops Q (⟨d,.call ⟨.value (.func f),args.toArray,mj⟩,ty,pos,af,none⟩::rest) fr Γ:=GL.Aw aI hc.h ha fc br h
theorem GL.Ky {f:FuncId} [hf:az P f] {aI:List Nat} {x:Operand} {first cap:List GV} {args:List Operand} {mj:Array TypeId} {gs:List GV} {gL:List Ob} {R:GV->List Ob->Prop} (hc:si aI (GC P f gs gL R)) (hx:aM fr x=.fn (.func f) first cap) (ha:first++args.map (aM fr)++cap=lx (bJ aI Γ.length) gs) (fc:ic aI Γ.length=true)
  (br:seen (bJ aI Γ.length) Γ aI gL) (h:∀ g aD,R g aD->aI.length<=aD.length/\GL P m ops Q rest (bf fr d (dx (bJ aI Γ.length) g)) (dM Γ aI (aD.map (Ob.dx (bJ aI Γ.length))))) :
  GL P m ops Q (⟨d,.call ⟨.value x,args.toArray,mj⟩,ty,pos,af,none⟩::rest) fr Γ:=GL.nG aI hc.h hx ha fc br h
theorem GL.Kx {f:FuncId} [hf:az P f] {aI:List Nat} {x:Operand} {args:List Operand} {mj:Array TypeId} {gs:List GV} {gL:List Ob} {R:GV->List Ob->Prop} (hc:si aI (GC P f gs gL R)) (hx:aM fr x=.v (.func (.func f) #[] #[])) (ha:args.map (aM fr)=lx (bJ aI Γ.length) gs) (fc:ic aI Γ.length=true)
  (br:seen (bJ aI Γ.length) Γ aI gL) (h:∀ g aD,R g aD->aI.length<=aD.length/\GL P m ops Q rest (bf fr d (dx (bJ aI Γ.length) g)) (dM Γ aI (aD.map (Ob.dx (bJ aI Γ.length))))) :
  GL P m ops Q (⟨d,.call ⟨.value x,args.toArray,mj⟩,ty,pos,af,none⟩::rest) fr Γ:=GL.Ux aI hc.h hx ha fc br h
end
theorem iK {A:Prop} (s:A:=by repeat (first | exact iM.n | (apply iM.w;(· decide +kernel)) | (apply iM.y;(· first | (apply YQ.t;(· exact rfl);(· exact rfl);(· (first | (apply K.ld;first | exact YG.xN rfl rfl (by first | rfl | assumption) | exact YG.sR rfl rfl rfl rfl | exact YG.ldV rfl rfl (by first | rfl | assumption) (by first | rfl | assumption) (by first | rfl | assumption) | exact YG.xM rfl rfl (by first | rfl | assumption) (by first | rfl | assumption) (by first | rfl | assumption)) | (apply K.idx;first | exact YG.idxV rfl rfl rfl (by first | rfl | assumption) (by omega) | exact YG.bs 0 rfl rfl rfl (by first | omega | assumption | (simp only [List.length_append,List.length_cons,List.length_nil];omega)) | exact YG.bs 1 rfl rfl rfl (by first | omega | assumption | (simp only [List.length_append,List.length_cons,List.length_nil];omega)) | exact YG.bs 2 rfl rfl rfl (by first | omega | assumption | (simp only [List.length_append,List.length_cons,List.length_nil];omega)) | exact YG.bs 3 rfl rfl rfl (by first | omega | assumption | (simp only [List.length_append,List.length_cons,List.length_nil];omega)) | exact YG.bs 4 rfl rfl rfl (by first | omega | assumption | (simp only [List.length_append,List.length_cons,List.length_nil];omega)) | exact YG.bs 5 rfl rfl rfl (by first | omega | assumption | (simp only [List.length_append,List.length_cons,List.length_nil];omega)) | exact YG.bs 6 rfl rfl rfl (by first | omega | assumption | (simp only [List.length_append,List.length_cons,List.length_nil];omega))) | (apply K.pj;first | exact YG.fldV rfl rfl (by first | rfl | assumption) | exact YG.sA rfl rfl (by first | rfl | assumption)) | exact YG.ry 1 rfl rfl (by first | rfl | assumption) (by first | rfl | assumption) | exact YG.mv | exact YG.tH | (apply K.bin;first | exact YG.go rfl | exact YG.o9 rfl rfl (by omega) | exact YG.pe rfl rfl | exact YG.pI rfl rfl | exact YG.uS rfl rfl | exact YG.vk rfl rfl | exact YG.cat rfl rfl (by omega) | exact YG.cat rfl rfl (by simp only [List.length_append,List.length_cons,List.length_nil];omega) | exact YG.qh rfl rfl (by omega) | exact YG.add rfl rfl (by omega) | exact YG.sub rfl rfl (by omega) | exact YG.mul rfl rfl (by omega) | exact YG.tq rfl rfl (by omega) | exact YG.quo rfl rfl (by omega) | exact YG.rem rfl rfl (by omega) | exact YG.nL rfl rfl) | (apply K.pj;first | exact YG.sB rfl | exact YG.sy rfl) | (apply K.ld;first | exact YG.xL rfl (by first | rfl | assumption) | exact YG.sQ rfl rfl rfl) | (apply K.len;first | exact YG.pG rfl | exact YG.qt rfl | exact YG.sS rfl | exact YG.sT rfl | exact YG.lenA rfl) | (apply K.xR;first | exact YG.sY rfl | exact YG.sX rfl) | (apply K.pick;first | exact YG.vr rfl (by first | rfl | assumption) | exact YG.vq rfl (by first | rfl | assumption)) | (apply K.idx;first | exact YG.oA rfl rfl (by assumption) | exact YG.fy rfl rfl (by assumption) rfl | exact YG.fy rfl rfl (by assumption) (by omega) | exact YG.qp rfl rfl (by omega)) | exact YG.ext rfl rfl | exact YG.go rfl | (apply K.xY;first | exact YG.tl rfl rfl rfl (by omega) | exact YG.tj rfl rfl (by omega) | exact YG.th rfl rfl (by omega) | exact YG.nu 1 rfl rfl rfl (by first | rfl | assumption)) | exact YG.qs rfl rfl (by assumption) | exact YG.idxSC rfl rfl (by assumption) rfl | (apply K.jn;first | exact YG.mkfn0 | exact YG.jn) | exact YG.build rfl | exact YG.neg rfl (by omega) | exact YG.qk rfl rfl | exact YG.xf rfl (by first | rfl | exact IntWalk.i64_in _ (by omega) | exact IntWalk.u8_in _ (by omega) | assumption) | exact YG.str rfl (by first | rfl | assumption)))) | (apply YQ.t;(· exact rfl);(· apply BR;(· exact rfl);(· first | exact rfl | assumption));(· (first | (apply K.ld;first | exact YG.xN rfl rfl (by first | rfl | assumption) | exact YG.sR rfl rfl rfl rfl | exact YG.ldV rfl rfl (by first | rfl | assumption) (by first | rfl | assumption) (by first | rfl | assumption) | exact YG.xM rfl rfl (by first | rfl | assumption) (by first | rfl | assumption) (by first | rfl | assumption)) | (apply K.idx;first | exact YG.idxV rfl rfl rfl (by first | rfl | assumption) (by omega) | exact YG.bs 0 rfl rfl rfl (by first | omega | assumption | (simp only [List.length_append,List.length_cons,List.length_nil];omega)) | exact YG.bs 1 rfl rfl rfl (by first | omega | assumption | (simp only [List.length_append,List.length_cons,List.length_nil];omega)) | exact YG.bs 2 rfl rfl rfl (by first | omega | assumption | (simp only [List.length_append,List.length_cons,List.length_nil];omega)) | exact YG.bs 3 rfl rfl rfl (by first | omega | assumption | (simp only [List.length_append,List.length_cons,List.length_nil];omega)) | exact YG.bs 4 rfl rfl rfl (by first | omega | assumption | (simp only [List.length_append,List.length_cons,List.length_nil];omega)) | exact YG.bs 5 rfl rfl rfl (by first | omega | assumption | (simp only [List.length_append,List.length_cons,List.length_nil];omega)) | exact YG.bs 6 rfl rfl rfl (by first | omega | assumption | (simp only [List.length_append,List.length_cons,List.length_nil];omega))) | (apply K.pj;first | exact YG.fldV rfl rfl (by first | rfl | assumption) | exact YG.sA rfl rfl (by first | rfl | assumption)) | exact YG.ry 1 rfl rfl (by first | rfl | assumption) (by first | rfl | assumption) | exact YG.mv | exact YG.tH | (apply K.bin;first | exact YG.go rfl | exact YG.o9 rfl rfl (by omega) | exact YG.pe rfl rfl | exact YG.pI rfl rfl | exact YG.uS rfl rfl | exact YG.vk rfl rfl | exact YG.cat rfl rfl (by omega) | exact YG.cat rfl rfl (by simp only [List.length_append,List.length_cons,List.length_nil];omega) | exact YG.qh rfl rfl (by omega) | exact YG.add rfl rfl (by omega) | exact YG.sub rfl rfl (by omega) | exact YG.mul rfl rfl (by omega) | exact YG.tq rfl rfl (by omega) | exact YG.quo rfl rfl (by omega) | exact YG.rem rfl rfl (by omega) | exact YG.nL rfl rfl) | (apply K.pj;first | exact YG.sB rfl | exact YG.sy rfl) | (apply K.ld;first | exact YG.xL rfl (by first | rfl | assumption) | exact YG.sQ rfl rfl rfl) | (apply K.len;first | exact YG.pG rfl | exact YG.qt rfl | exact YG.sS rfl | exact YG.sT rfl | exact YG.lenA rfl) | (apply K.xR;first | exact YG.sY rfl | exact YG.sX rfl) | (apply K.pick;first | exact YG.vr rfl (by first | rfl | assumption) | exact YG.vq rfl (by first | rfl | assumption)) | (apply K.idx;first | exact YG.oA rfl rfl (by assumption) | exact YG.fy rfl rfl (by assumption) rfl | exact YG.fy rfl rfl (by assumption) (by omega) | exact YG.qp rfl rfl (by omega)) | exact YG.ext rfl rfl | exact YG.go rfl | (apply K.xY;first | exact YG.tl rfl rfl rfl (by omega) | exact YG.tj rfl rfl (by omega) | exact YG.th rfl rfl (by omega) | exact YG.nu 1 rfl rfl rfl (by first | rfl | assumption)) | exact YG.qs rfl rfl (by assumption) | exact YG.idxSC rfl rfl (by assumption) rfl | (apply K.jn;first | exact YG.mkfn0 | exact YG.jn) | exact YG.build rfl | exact YG.neg rfl (by omega) | exact YG.qk rfl rfl | exact YG.xf rfl (by first | rfl | exact IntWalk.i64_in _ (by omega) | exact IntWalk.u8_in _ (by omega) | assumption) | exact YG.str rfl (by first | rfl | assumption)))) | (apply YQ.f;(· exact rfl);(· apply Ee;(· exact rfl);(· first | exact rfl | assumption))))))):A:=s
theorem dy {A:Prop} (s:A:=by (try simp only [bf,bg,aM,cq,List.length_cons,List.length_nil,Nat.reduceAdd,dx,lx,bJ]);rfl):A:=s
theorem eJ {A:Prop} (s:A:=by (try simp only [List.cons_append,List.nil_append,oset,nJ,bg,cq,aM,dM,List.map_cons,List.map_nil,Ob.dx,dx,lx,bJ]);rfl):A:=s
theorem yG {A:Prop} (s:A:=by simp only [bf,bg,aM,cq];rfl):A:=s
theorem l6 {A:Prop} (s:A:=by first | exact kD.refl | (repeat (first | exact kD.nil | exact l8.refl | exact l8.nil | exact l8.any | exact l8.fn0 | refine kD.cons ?_ ?_ | refine l8.agg ?_))):A:=s
theorem kC {A:Prop} (s:A:=by first | exact trivial | exact ⟨rfl,trivial⟩ | exact ⟨rfl,rfl,trivial⟩ | exact ⟨rfl,rfl,rfl,trivial⟩ | exact ⟨rfl,rfl,rfl,rfl,rfl,trivial⟩):A:=s
theorem ab {A B:Prop} (h:B) (s:Hid B->A:=by intro hQ;(repeat (first | ((first | (apply GL.q;(· (first | exact YG.mv | exact YG.tH | (apply K.bin;first | exact YG.go rfl | exact YG.o9 rfl rfl (by omega) | exact YG.pe rfl rfl | exact YG.pI rfl rfl | exact YG.uS rfl rfl | exact YG.vk rfl rfl | exact YG.cat rfl rfl (by omega) | exact YG.cat rfl rfl (by simp only [List.length_append,List.length_cons,List.length_nil];omega) | exact YG.qh rfl rfl (by omega) | exact YG.add rfl rfl (by omega) | exact YG.sub rfl rfl (by omega) | exact YG.mul rfl rfl (by omega) | exact YG.tq rfl rfl (by omega) | exact YG.quo rfl rfl (by omega) | exact YG.rem rfl rfl (by omega) | exact YG.nL rfl rfl) | (apply K.pj;first | exact YG.sB rfl | exact YG.sy rfl | exact YG.fldV rfl rfl (by first | rfl | assumption) | exact YG.sA rfl rfl (by first | rfl | assumption)) | (apply K.ld;first | exact YG.xN rfl rfl (by first | rfl | assumption) | exact YG.xL rfl (by first | rfl | assumption) | exact YG.sR rfl rfl rfl rfl | exact YG.sQ rfl rfl rfl | exact YG.ldV rfl rfl (by first | rfl | assumption) (by first | rfl | assumption) (by first | rfl | assumption) | exact YG.xM rfl rfl (by first | rfl | assumption) (by first | rfl | assumption) (by first | rfl | assumption)) | (apply K.len;first | exact YG.pG rfl | exact YG.qt rfl | exact YG.sS rfl | exact YG.sT rfl | exact YG.lenA rfl) | (apply K.xR;first | exact YG.sY rfl | exact YG.sX rfl) | (apply K.pick;first | exact YG.vr rfl (by first | rfl | assumption) | exact YG.vq rfl (by first | rfl | assumption)) | (apply K.idx;first | exact YG.oA rfl rfl (by assumption) | exact YG.fy rfl rfl (by assumption) rfl | exact YG.fy rfl rfl (by assumption) (by omega) | exact YG.qp rfl rfl (by omega) | exact YG.idxV rfl rfl rfl (by first | rfl | assumption) (by omega) | exact YG.bs 0 rfl rfl rfl (by first | omega | assumption | (simp only [List.length_append,List.length_cons,List.length_nil];omega)) | exact YG.bs 1 rfl rfl rfl (by first | omega | assumption | (simp only [List.length_append,List.length_cons,List.length_nil];omega)) | exact YG.bs 2 rfl rfl rfl (by first | omega | assumption | (simp only [List.length_append,List.length_cons,List.length_nil];omega)) | exact YG.bs 3 rfl rfl rfl (by first | omega | assumption | (simp only [List.length_append,List.length_cons,List.length_nil];omega)) | exact YG.bs 4 rfl rfl rfl (by first | omega | assumption | (simp only [List.length_append,List.length_cons,List.length_nil];omega)) | exact YG.bs 5 rfl rfl rfl (by first | omega | assumption | (simp only [List.length_append,List.length_cons,List.length_nil];omega)) | exact YG.bs 6 rfl rfl rfl (by first | omega | assumption | (simp only [List.length_append,List.length_cons,List.length_nil];omega))) | exact YG.ext rfl rfl | exact YG.go rfl | (apply K.xY;first | exact YG.tl rfl rfl rfl (by omega) | exact YG.tj rfl rfl (by omega) | exact YG.th rfl rfl (by omega) | exact YG.nu 1 rfl rfl rfl (by first | rfl | assumption)) | exact YG.qs rfl rfl (by assumption) | exact YG.idxSC rfl rfl (by assumption) rfl | (apply K.jn;first | exact YG.mkfn0 | exact YG.jn) | exact YG.build rfl | exact YG.neg rfl (by omega) | exact YG.qk rfl rfl | exact YG.xf rfl (by first | rfl | exact IntWalk.i64_in _ (by omega) | exact IntWalk.u8_in _ (by omega) | assumption) | exact YG.str rfl (by first | rfl | assumption)))) | refine GL.nil ?_ | refine aJ ?_ | refine GW.seq ?_ | refine GW.region ?_ | refine GW.skip ?_ | refine b7 ?_ | refine GW.block ?_ | (apply GL.gt;(· exact rfl);(· first | exact rfl | assumption)) | (apply GL.gf;(· exact rfl);(· first | exact rfl | assumption)) | (apply GL.gu;(· exact rfl)) | (apply Pn;(· exact rfl);(· first | exact rfl | assumption)) | (apply Pm;(· exact rfl);(· first | exact rfl | assumption)));try refine GN yG ?_) | ((first | (apply GL.alloc;(· simp only [ji,Value.cells,List.map_cons,List.map_nil];rfl)) | (apply GL.box;(· exact rfl)) | (apply GL.st;(· exact rfl);(· exact rfl);(· exact rfl);(· exact rfl);(· exact rfl);(· exact rfl)));refine tD dy eJ ?_)));exact hQ.1):A:=s ⟨h⟩
theorem ai {A B:Prop} (h:B) (s:Hid B->A:=by intro hQ;(repeat ((first | (apply XR;(· exact rfl)) | (apply XQ;(· exact rfl)) | (apply OP;(· exact rfl);(· intro Γ;(first | (apply K.bin;first | exact YG.go rfl | exact YG.o9 rfl rfl (by omega) | exact YG.pe rfl rfl | exact YG.pI rfl rfl | exact YG.uS rfl rfl | exact YG.vk rfl rfl | exact YG.cat rfl rfl (by omega) | exact YG.cat rfl rfl (by simp only [List.length_append,List.length_cons,List.length_nil];omega) | exact YG.qh rfl rfl (by omega) | exact YG.add rfl rfl (by omega) | exact YG.sub rfl rfl (by omega) | exact YG.mul rfl rfl (by omega) | exact YG.tq rfl rfl (by omega) | exact YG.quo rfl rfl (by omega) | exact YG.rem rfl rfl (by omega) | exact YG.nL rfl rfl) | (apply K.pj;first | exact YG.sB rfl | exact YG.sy rfl) | (apply K.ld;first | exact YG.xL rfl (by first | rfl | assumption) | exact YG.sQ rfl rfl rfl) | (apply K.len;first | exact YG.pG rfl | exact YG.qt rfl | exact YG.sS rfl | exact YG.sT rfl | exact YG.lenA rfl) | (apply K.xR;first | exact YG.sY rfl | exact YG.sX rfl) | (apply K.idx;first | exact YG.oA rfl rfl (by assumption) | exact YG.fy rfl rfl (by assumption) rfl | exact YG.fy rfl rfl (by assumption) (by omega) | exact YG.qp rfl rfl (by omega)) | exact YG.ext rfl rfl | exact YG.go rfl | (apply K.xY;first | exact YG.tl rfl rfl rfl (by omega) | exact YG.tj rfl rfl (by omega) | exact YG.th rfl rfl (by omega) | exact YG.nu 1 rfl rfl rfl (by first | rfl | assumption)) | exact YG.qs rfl rfl (by assumption) | exact YG.idxSC rfl rfl (by assumption) rfl | (apply K.jn;first | exact YG.mkfn0 | exact YG.jn) | exact YG.build rfl | exact YG.neg rfl (by omega) | exact YG.qk rfl rfl | exact YG.xf rfl (by first | rfl | exact IntWalk.i64_in _ (by omega) | exact IntWalk.u8_in _ (by omega) | assumption) | exact YG.str rfl (by first | rfl | assumption)))) | (apply Wp;(· exact rfl);(· exact rfl);(· first | exact rfl | assumption)) | (apply Wo;(· exact rfl);(· exact rfl);(· first | exact rfl | assumption)) | (apply Wq;(· exact rfl);(· exact rfl);(· first | exact rfl | assumption)) | (apply OQ;(· exact rfl);(· (first | (apply K.ld;first | exact YG.xN rfl rfl (by first | rfl | assumption) | exact YG.sR rfl rfl rfl rfl | exact YG.ldV rfl rfl (by first | rfl | assumption) (by first | rfl | assumption) (by first | rfl | assumption) | exact YG.xM rfl rfl (by first | rfl | assumption) (by first | rfl | assumption) (by first | rfl | assumption)) | (apply K.idx;first | exact YG.idxV rfl rfl rfl (by first | rfl | assumption) (by omega) | exact YG.bs 0 rfl rfl rfl (by first | omega | assumption | (simp only [List.length_append,List.length_cons,List.length_nil];omega)) | exact YG.bs 1 rfl rfl rfl (by first | omega | assumption | (simp only [List.length_append,List.length_cons,List.length_nil];omega)) | exact YG.bs 2 rfl rfl rfl (by first | omega | assumption | (simp only [List.length_append,List.length_cons,List.length_nil];omega)) | exact YG.bs 3 rfl rfl rfl (by first | omega | assumption | (simp only [List.length_append,List.length_cons,List.length_nil];omega)) | exact YG.bs 4 rfl rfl rfl (by first | omega | assumption | (simp only [List.length_append,List.length_cons,List.length_nil];omega)) | exact YG.bs 5 rfl rfl rfl (by first | omega | assumption | (simp only [List.length_append,List.length_cons,List.length_nil];omega)) | exact YG.bs 6 rfl rfl rfl (by first | omega | assumption | (simp only [List.length_append,List.length_cons,List.length_nil];omega))) | (apply K.pj;first | exact YG.fldV rfl rfl (by first | rfl | assumption) | exact YG.sA rfl rfl (by first | rfl | assumption)) | exact YG.ry 1 rfl rfl (by first | rfl | assumption) (by first | rfl | assumption)))) | (apply VB;(· exact rfl);(· exact rfl);(· first | exact rfl | assumption);(· intro Γ;(first | exact YG.mv | exact YG.tH | (apply K.bin;first | exact YG.go rfl | exact YG.o9 rfl rfl (by omega) | exact YG.pe rfl rfl | exact YG.pI rfl rfl | exact YG.uS rfl rfl | exact YG.vk rfl rfl | exact YG.cat rfl rfl (by omega) | exact YG.cat rfl rfl (by simp only [List.length_append,List.length_cons,List.length_nil];omega) | exact YG.qh rfl rfl (by omega) | exact YG.add rfl rfl (by omega) | exact YG.sub rfl rfl (by omega) | exact YG.mul rfl rfl (by omega) | exact YG.tq rfl rfl (by omega) | exact YG.quo rfl rfl (by omega) | exact YG.rem rfl rfl (by omega) | exact YG.nL rfl rfl) | (apply K.pj;first | exact YG.sB rfl | exact YG.sy rfl) | (apply K.ld;first | exact YG.xL rfl (by first | rfl | assumption) | exact YG.sQ rfl rfl rfl) | (apply K.len;first | exact YG.pG rfl | exact YG.qt rfl | exact YG.sS rfl | exact YG.sT rfl | exact YG.lenA rfl) | (apply K.xR;first | exact YG.sY rfl | exact YG.sX rfl) | (apply K.pick;first | exact YG.vr rfl (by first | rfl | assumption) | exact YG.vq rfl (by first | rfl | assumption)) | (apply K.idx;first | exact YG.oA rfl rfl (by assumption) | exact YG.fy rfl rfl (by assumption) rfl | exact YG.fy rfl rfl (by assumption) (by omega) | exact YG.qp rfl rfl (by omega)) | exact YG.ext rfl rfl | exact YG.go rfl | (apply K.xY;first | exact YG.tl rfl rfl rfl (by omega) | exact YG.tj rfl rfl (by omega) | exact YG.th rfl rfl (by omega) | exact YG.nu 1 rfl rfl rfl (by first | rfl | assumption)) | exact YG.qs rfl rfl (by assumption) | exact YG.idxSC rfl rfl (by assumption) rfl | (apply K.jn;first | exact YG.mkfn0 | exact YG.jn) | exact YG.build rfl | exact YG.neg rfl (by omega) | exact YG.qk rfl rfl | exact YG.xf rfl (by first | rfl | exact IntWalk.i64_in _ (by omega) | exact IntWalk.u8_in _ (by omega) | assumption) | exact YG.str rfl (by first | rfl | assumption)))) | (apply XS;(· exact rfl);(· exact rfl);(· first | exact rfl | assumption);(· (first | (apply K.ld;first | exact YG.xN rfl rfl (by first | rfl | assumption) | exact YG.sR rfl rfl rfl rfl | exact YG.ldV rfl rfl (by first | rfl | assumption) (by first | rfl | assumption) (by first | rfl | assumption) | exact YG.xM rfl rfl (by first | rfl | assumption) (by first | rfl | assumption) (by first | rfl | assumption)) | (apply K.idx;first | exact YG.idxV rfl rfl rfl (by first | rfl | assumption) (by omega) | exact YG.bs 0 rfl rfl rfl (by first | omega | assumption | (simp only [List.length_append,List.length_cons,List.length_nil];omega)) | exact YG.bs 1 rfl rfl rfl (by first | omega | assumption | (simp only [List.length_append,List.length_cons,List.length_nil];omega)) | exact YG.bs 2 rfl rfl rfl (by first | omega | assumption | (simp only [List.length_append,List.length_cons,List.length_nil];omega)) | exact YG.bs 3 rfl rfl rfl (by first | omega | assumption | (simp only [List.length_append,List.length_cons,List.length_nil];omega)) | exact YG.bs 4 rfl rfl rfl (by first | omega | assumption | (simp only [List.length_append,List.length_cons,List.length_nil];omega)) | exact YG.bs 5 rfl rfl rfl (by first | omega | assumption | (simp only [List.length_append,List.length_cons,List.length_nil];omega)) | exact YG.bs 6 rfl rfl rfl (by first | omega | assumption | (simp only [List.length_append,List.length_cons,List.length_nil];omega))) | (apply K.pj;first | exact YG.fldV rfl rfl (by first | rfl | assumption) | exact YG.sA rfl rfl (by first | rfl | assumption)) | exact YG.ry 1 rfl rfl (by first | rfl | assumption) (by first | rfl | assumption)))) | (apply XO;(· exact rfl);(· exact rfl);(· first | exact rfl | assumption)) | (apply XP;(· exact rfl);(· exact rfl)) | (apply XM;(· exact rfl);(· exact rfl);(· first | exact rfl | assumption);(· exact iK)) | (apply XN;(· exact rfl);(· exact rfl);(· exact iK)) | refine GO.nil ?_ | (apply OA;(· exact rfl);(· exact rfl);apply GL.alloc;(· simp only [ji,Value.cells,List.map_cons,List.map_nil];rfl);refine GL.nil (aJ (eD.mk iK ?_));refine nV dy eJ ?_) | (apply OA;(· exact rfl);(· exact rfl);apply GL.st;(· exact rfl);(· exact rfl);(· exact rfl);(· exact rfl);(· exact rfl);(· exact rfl);refine GL.nil (aJ (eD.mk iK ?_));refine nV dy eJ ?_) | (apply OA;(· exact rfl);(· exact rfl);apply GL.box;(· exact rfl);refine GL.nil (aJ (eD.mk iK ?_));refine nV dy eJ ?_));try refine VA yG ?_));exact hQ.1):A:=s ⟨h⟩
theorem gP {A B:Prop} (h:B) (s:Hid B->A:=by intro hQ;(repeat (first | ((first | (apply GL.q;(· (first | exact YG.mv | exact YG.tH | (apply K.bin;first | exact YG.go rfl | exact YG.o9 rfl rfl (by omega) | exact YG.pe rfl rfl | exact YG.pI rfl rfl | exact YG.uS rfl rfl | exact YG.vk rfl rfl | exact YG.cat rfl rfl (by omega) | exact YG.cat rfl rfl (by simp only [List.length_append,List.length_cons,List.length_nil];omega) | exact YG.qh rfl rfl (by omega) | exact YG.add rfl rfl (by omega) | exact YG.sub rfl rfl (by omega) | exact YG.mul rfl rfl (by omega) | exact YG.tq rfl rfl (by omega) | exact YG.quo rfl rfl (by omega) | exact YG.rem rfl rfl (by omega) | exact YG.nL rfl rfl) | (apply K.pj;first | exact YG.sB rfl | exact YG.sy rfl | exact YG.fldV rfl rfl (by first | rfl | assumption) | exact YG.sA rfl rfl (by first | rfl | assumption)) | (apply K.ld;first | exact YG.xN rfl rfl (by first | rfl | assumption) | exact YG.xL rfl (by first | rfl | assumption) | exact YG.sR rfl rfl rfl rfl | exact YG.sQ rfl rfl rfl | exact YG.ldV rfl rfl (by first | rfl | assumption) (by first | rfl | assumption) (by first | rfl | assumption) | exact YG.xM rfl rfl (by first | rfl | assumption) (by first | rfl | assumption) (by first | rfl | assumption)) | (apply K.len;first | exact YG.pG rfl | exact YG.qt rfl | exact YG.sS rfl | exact YG.sT rfl | exact YG.lenA rfl) | (apply K.xR;first | exact YG.sY rfl | exact YG.sX rfl) | (apply K.pick;first | exact YG.vr rfl (by first | rfl | assumption) | exact YG.vq rfl (by first | rfl | assumption)) | (apply K.idx;first | exact YG.oA rfl rfl (by assumption) | exact YG.fy rfl rfl (by assumption) rfl | exact YG.fy rfl rfl (by assumption) (by omega) | exact YG.qp rfl rfl (by omega) | exact YG.idxV rfl rfl rfl (by first | rfl | assumption) (by omega) | exact YG.bs 0 rfl rfl rfl (by first | omega | assumption | (simp only [List.length_append,List.length_cons,List.length_nil];omega)) | exact YG.bs 1 rfl rfl rfl (by first | omega | assumption | (simp only [List.length_append,List.length_cons,List.length_nil];omega)) | exact YG.bs 2 rfl rfl rfl (by first | omega | assumption | (simp only [List.length_append,List.length_cons,List.length_nil];omega)) | exact YG.bs 3 rfl rfl rfl (by first | omega | assumption | (simp only [List.length_append,List.length_cons,List.length_nil];omega)) | exact YG.bs 4 rfl rfl rfl (by first | omega | assumption | (simp only [List.length_append,List.length_cons,List.length_nil];omega)) | exact YG.bs 5 rfl rfl rfl (by first | omega | assumption | (simp only [List.length_append,List.length_cons,List.length_nil];omega)) | exact YG.bs 6 rfl rfl rfl (by first | omega | assumption | (simp only [List.length_append,List.length_cons,List.length_nil];omega))) | exact YG.ext rfl rfl | exact YG.go rfl | (apply K.xY;first | exact YG.tl rfl rfl rfl (by omega) | exact YG.tj rfl rfl (by omega) | exact YG.th rfl rfl (by omega) | exact YG.nu 1 rfl rfl rfl (by first | rfl | assumption)) | exact YG.qs rfl rfl (by assumption) | exact YG.idxSC rfl rfl (by assumption) rfl | fail | exact YG.build rfl | exact YG.neg rfl (by omega) | exact YG.qk rfl rfl | exact YG.xf rfl (by first | rfl | exact IntWalk.i64_in _ (by omega) | exact IntWalk.u8_in _ (by omega) | assumption) | exact YG.str rfl (by first | rfl | assumption)))) | refine GL.nil ?_ | refine aJ ?_ | refine GW.seq ?_ | refine GW.region ?_ | refine GW.skip ?_ | refine b7 ?_ | refine GW.block ?_ | (apply GL.gt;(· exact rfl);(· first | exact rfl | assumption)) | (apply GL.gf;(· exact rfl);(· first | exact rfl | assumption)) | (apply GL.gu;(· exact rfl)) | (apply Pn;(· exact rfl);(· first | exact rfl | assumption)) | (apply Pm;(· exact rfl);(· first | exact rfl | assumption)));try refine GN yG ?_) | ((first | (apply GL.alloc;(· simp only [ji,Value.cells,List.map_cons,List.map_nil];rfl)) | (apply GL.box;(· exact rfl)) | (apply GL.st;(· exact rfl);(· exact rfl);(· exact rfl);(· exact rfl);(· exact rfl);(· exact rfl)));refine tD dy eJ ?_)));exact hQ.1):A:=s ⟨h⟩
theorem Iy {A B:Prop} (h:B) (s:Hid B->A:=by intro hQ;(repeat (first | ((first | (apply GL.q;(· (first | exact YG.mv | exact YG.tH | (apply K.bin;first | exact YG.go rfl | exact YG.o9 rfl rfl (by omega) | exact YG.pe rfl rfl | exact YG.pI rfl rfl | exact YG.uS rfl rfl | exact YG.vk rfl rfl | exact YG.cat rfl rfl (by omega) | exact YG.cat rfl rfl (by simp only [List.length_append,List.length_cons,List.length_nil];omega) | exact YG.qh rfl rfl (by omega) | exact YG.add rfl rfl (by omega) | exact YG.sub rfl rfl (by omega) | exact YG.mul rfl rfl (by omega) | exact YG.tq rfl rfl (by omega) | exact YG.quo rfl rfl (by omega) | exact YG.rem rfl rfl (by omega) | exact YG.nL rfl rfl) | (apply K.pj;first | exact YG.sB rfl | exact YG.sy rfl | exact YG.fldV rfl rfl (by first | rfl | assumption) | exact YG.sA rfl rfl (by first | rfl | assumption)) | (apply K.ld;first | exact YG.xN rfl rfl (by first | rfl | assumption) | exact YG.xL rfl (by first | rfl | assumption) | exact YG.sR rfl rfl rfl rfl | exact YG.sQ rfl rfl rfl | exact YG.ldV rfl rfl (by first | rfl | assumption) (by first | rfl | assumption) (by first | rfl | assumption) | exact YG.xM rfl rfl (by first | rfl | assumption) (by first | rfl | assumption) (by first | rfl | assumption)) | (apply K.len;first | exact YG.pG rfl | exact YG.qt rfl | exact YG.sS rfl | exact YG.sT rfl | exact YG.lenA rfl) | (apply K.xR;first | exact YG.sY rfl | exact YG.sX rfl) | (apply K.pick;first | exact YG.vr rfl (by first | rfl | assumption) | exact YG.vq rfl (by first | rfl | assumption)) | (apply K.idx;first | exact YG.oA rfl rfl (by assumption) | exact YG.fy rfl rfl (by assumption) rfl | exact YG.fy rfl rfl (by assumption) (by omega) | exact YG.qp rfl rfl (by omega) | exact YG.idxV rfl rfl rfl (by first | rfl | assumption) (by omega) | exact YG.bs 0 rfl rfl rfl (by first | omega | assumption | (simp only [List.length_append,List.length_cons,List.length_nil];omega)) | exact YG.bs 1 rfl rfl rfl (by first | omega | assumption | (simp only [List.length_append,List.length_cons,List.length_nil];omega)) | exact YG.bs 2 rfl rfl rfl (by first | omega | assumption | (simp only [List.length_append,List.length_cons,List.length_nil];omega)) | exact YG.bs 3 rfl rfl rfl (by first | omega | assumption | (simp only [List.length_append,List.length_cons,List.length_nil];omega)) | exact YG.bs 4 rfl rfl rfl (by first | omega | assumption | (simp only [List.length_append,List.length_cons,List.length_nil];omega)) | exact YG.bs 5 rfl rfl rfl (by first | omega | assumption | (simp only [List.length_append,List.length_cons,List.length_nil];omega)) | exact YG.bs 6 rfl rfl rfl (by first | omega | assumption | (simp only [List.length_append,List.length_cons,List.length_nil];omega))) | exact YG.ext rfl rfl | exact YG.go rfl | (apply K.xY;first | exact YG.tl rfl rfl rfl (by omega) | exact YG.tj rfl rfl (by omega) | exact YG.th rfl rfl (by omega) | exact YG.nu 1 rfl rfl rfl (by first | rfl | assumption)) | exact YG.qs rfl rfl (by assumption) | exact YG.idxSC rfl rfl (by assumption) rfl | (apply K.jn;first | exact YG.mkfn0 | exact YG.jn) | exact YG.build rfl | exact YG.neg rfl (by omega) | exact YG.qk rfl rfl | exact YG.xf rfl (by first | rfl | exact IntWalk.i64_in _ (by omega) | exact IntWalk.u8_in _ (by omega) | assumption) | exact YG.str rfl (by first | rfl | assumption)))) | refine GL.nil ?_ | refine aJ ?_ | refine GW.seq ?_ | refine GW.region ?_ | refine GW.skip ?_ | refine b7 ?_ | (apply GL.gt;(· exact rfl);(· first | exact rfl | assumption)) | (apply GL.gf;(· exact rfl);(· first | exact rfl | assumption)) | (apply GL.gu;(· exact rfl)) | (apply Pn;(· exact rfl);(· first | exact rfl | assumption)) | (apply Pm;(· exact rfl);(· first | exact rfl | assumption)));try refine GN yG ?_) | ((first | (apply GL.alloc;(· simp only [ji,Value.cells,List.map_cons,List.map_nil];rfl)) | (apply GL.box;(· exact rfl)) | (apply GL.st;(· exact rfl);(· exact rfl);(· exact rfl);(· exact rfl);(· exact rfl);(· exact rfl)));refine tD dy eJ ?_)));exact hQ.1):A:=s ⟨h⟩
theorem bZ {A B:Prop} (h:B) (s:Hid B->A:=by intro hQ;(try refine GN yG ?_);exact hQ.1):A:=s ⟨h⟩
theorem Ql {A B:Prop} (h:B) (s:Hid B->A:=by intro hQ;(try refine VA yG ?_);exact hQ.1):A:=s ⟨h⟩
theorem cS {A B:Prop} (h:B) (s:Hid B->A:=by intro hQ;(refine tD dy eJ ?_);exact hQ.1):A:=s ⟨h⟩
theorem MZ {A B:Prop} (h:B) (s:Hid B->A:=by intro hQ;(refine nV dy eJ ?_);exact hQ.1):A:=s ⟨h⟩
theorem aS {A B:Prop} (h:B) (s:Hid B->A:=by intro hQ;((repeat (first | refine GW.exit ?_ | refine Eh ?_ | refine Hu ?_ | refine ginb_xn rfl ?_ | refine b7 ?_ | refine aJ ?_)));exact hQ.1):A:=s ⟨h⟩
theorem bI {A B:Prop} (h:B) (s:Hid B->A:=by intro hQ;((repeat (first | refine GW.ret ?_ | refine cL ?_ | refine cK ?_ | refine aJ ?_ | refine b7 ?_));refine ql rfl (by first | exact .inr rfl | exact .inl rfl) rfl (Nat.le_refl _) rfl rfl ?_);exact hQ.1):A:=s ⟨h⟩
theorem cl {A B:Prop} (h:B) (s:Hid B->A:=by intro hQ;((repeat (first | refine GW.ret ?_ | refine cL ?_ | refine cK ?_ | refine aJ ?_ | refine b7 ?_));refine Sm rfl (by first | exact .inr rfl | exact .inl rfl) (Nat.le_refl _) rfl ?_);exact hQ.1):A:=s ⟨h⟩
theorem yH {A B:Prop} (h:B) (s:Hid B->A:=by intro hQ;((repeat (first | refine GW.ret ?_ | refine cL ?_ | refine cK ?_ | refine aJ ?_ | refine b7 ?_));refine Sn rfl (by first | exact .inr rfl | exact .inl rfl) rfl rfl (Nat.le_refl _) rfl rfl ?_);exact hQ.1):A:=s ⟨h⟩
theorem Iw {A B:Prop} (h:B) (s:Hid B->A:=by intro hQ;((repeat (first | refine GW.ret ?_ | refine cL ?_ | refine cK ?_ | refine aJ ?_ | refine b7 ?_));refine So rfl (by first | exact .inr rfl | exact .inl rfl) rfl rfl rfl (Nat.le_refl _) rfl rfl ?_);exact hQ.1):A:=s ⟨h⟩
theorem qE {A B:Prop} (h:B) (s:Hid B->A:=by intro hQ;((repeat (first | refine GW.ret ?_ | refine cL ?_ | refine cK ?_ | refine aJ ?_ | refine b7 ?_));refine AB ?_;refine So rfl (by first | exact .inr rfl | exact .inl rfl) rfl rfl rfl (Nat.le_refl _) rfl rfl ?_);exact hQ.1):A:=s ⟨h⟩
theorem F0 {A B:Prop} (h:B) (s:Hid B->A:=by intro hQ;((repeat (first | refine GW.ret ?_ | refine cL ?_ | refine cK ?_ | refine aJ ?_ | refine b7 ?_));refine AB ?_;refine Sn rfl (by first | exact .inr rfl | exact .inl rfl) rfl rfl (Nat.le_refl _) rfl rfl ?_);exact hQ.1):A:=s ⟨h⟩
theorem qF {A B:Prop} (h:B) (s:Hid B->A:=by intro hQ;((repeat (first | refine GW.ret ?_ | refine cL ?_ | refine cK ?_ | refine aJ ?_ | refine b7 ?_));refine AB ?_;refine Sq rfl (by first | exact .inr rfl | exact .inl rfl) rfl rfl rfl (Nat.le_refl _) rfl rfl ?_);exact hQ.1):A:=s ⟨h⟩
theorem jL {A B:Prop} (h:B) (s:Hid B->A:=by intro hQ;((repeat (first | refine GW.ret ?_ | refine cL ?_ | refine cK ?_ | refine aJ ?_ | refine b7 ?_));refine UI rfl (by first | exact .inr rfl | exact .inl rfl) rfl rfl rfl rfl (Nat.le_refl _) rfl rfl ?_);exact hQ.1):A:=s ⟨h⟩
theorem lL {A B:Prop} (h:B) (s:Hid B->A:=by intro hQ;((repeat (first | refine GW.ret ?_ | refine cL ?_ | refine cK ?_ | refine aJ ?_ | refine b7 ?_));refine Li rfl (by first | exact .inr rfl | exact .inl rfl) rfl rfl rfl rfl rfl (Nat.le_refl _) rfl rfl ?_);exact hQ.1):A:=s ⟨h⟩
theorem Bp {A B:Prop} (h:B) (s:Hid B->A:=by intro hQ;((repeat (first | refine GW.ret ?_ | refine cL ?_ | refine cK ?_ | refine aJ ?_ | refine b7 ?_));refine AB ?_;refine Li rfl (by first | exact .inr rfl | exact .inl rfl) rfl rfl rfl rfl rfl (Nat.le_refl _) rfl rfl ?_);exact hQ.1):A:=s ⟨h⟩
theorem Ix {A B:Prop} (h:B) (s:Hid B->A:=by intro hQ;((repeat (first | refine GW.ret ?_ | refine cL ?_ | refine cK ?_ | refine aJ ?_ | refine b7 ?_));refine Sq rfl (by first | exact .inr rfl | exact .inl rfl) rfl rfl rfl (Nat.le_refl _) rfl rfl ?_);exact hQ.1):A:=s ⟨h⟩
theorem bC {A B:Prop} (h:B) (s:Hid B->A:=by intro hQ;(refine GL.Wh rfl rfl rfl rfl ?_;refine tD dy eJ ?_);exact hQ.1):A:=s ⟨h⟩
theorem ow {A B:Prop} (h:B) (s:Hid B->A:=by intro hQ;(refine GL.Wi rfl rfl rfl rfl ?_;refine tD dy eJ ?_);exact hQ.1):A:=s ⟨h⟩
theorem ea {A B:Prop} (h:B) (s:Hid B->A:=by intro hQ;(refine GL.push rfl rfl rfl rfl rfl rfl rfl rfl (by first | rfl | assumption) ⟨⟨by omega,by omega⟩,by decide⟩ ?_;refine tD dy eJ ?_);exact hQ.1):A:=s ⟨h⟩
theorem sd {A B:Prop} (h:B) (s:Hid B->A:=by intro hQ;(refine OA rfl rfl (GL.Wi rfl rfl rfl rfl (GL.nil (aJ (eD.mk iK ?_))));refine nV dy eJ ?_);exact hQ.1):A:=s ⟨h⟩
theorem sc {A B:Prop} (h:B) (s:Hid B->A:=by intro hQ;(refine OA rfl rfl (GL.app rfl rfl rfl (by first | rfl | assumption) rfl rfl (by refine ⟨?_,?_⟩;(· show _+1<=_;omega);(· show (_+1) * _<=_;omega)) (GL.nil (aJ (eD.mk iK ?_))));refine nV dy eJ ?_);exact hQ.1):A:=s ⟨h⟩
theorem dk {A B:Prop} (h:B) (s:Hid B->A:=by intro hQ;(refine OA rfl rfl (GL.Wh rfl rfl rfl rfl (GL.nil (aJ (eD.mk iK ?_))));refine nV dy eJ ?_);exact hQ.1):A:=s ⟨h⟩
theorem FZ {A B:Prop} (h:B) (s:Hid B->A:=by intro hQ;(refine OA rfl rfl (GL.st rfl rfl rfl rfl rfl rfl (GL.nil (aJ (eD.mk iK ?_))));refine nV dy eJ ?_);exact hQ.1):A:=s ⟨h⟩
theorem J4 {A B:Prop} (h:B) (s:Hid B->A:=by intro hQ;(refine OA rfl rfl (GL.MW 1 (by kernel_rfl) (by kernel_rfl) rfl rfl rfl rfl (by assumption) (by omega) (GL.nil (aJ (eD.mk iK ?_))));refine nV dy eJ ?_);exact hQ.1):A:=s ⟨h⟩
theorem ox {A B:Prop} (h:B) (s:Hid B->A:=by intro hQ;(refine GL.Zu rfl rfl rfl (by first | rfl | assumption) rfl rfl rfl rfl ?_;refine tD dy eJ ?_);exact hQ.1):A:=s ⟨h⟩
theorem kg {A B:Prop} (h:B) (s:Hid B->A:=by intro hQ;(refine GL.XF rfl rfl (by first | rfl | assumption | omega) (by omega) rfl rfl rfl rfl ?_;refine tD dy eJ ?_);exact hQ.1):A:=s ⟨h⟩
theorem cU {A B:Prop} (h:B) (s:Hid B->A:=by intro hQ;(refine ⟨by simp,?_⟩;refine tD dy eJ ?_);exact hQ.1):A:=s ⟨h⟩
theorem c8 {A B:Prop} (h:B) (s:Hid B->A:=by intro hQ;(refine GL.nil (aJ (eD.mk iK ?_));refine nV dy eJ ?_);exact hQ.1):A:=s ⟨h⟩
theorem nP {A:Prop} (s:A:=by simp only [aH,rX];rfl):A:=s
theorem iZ {A:Prop} (s:A:=by first | exact kD.refl | exact l8.refl | (repeat (first | exact kD.nil | exact l8.refl | exact l8.nil | exact l8.any | exact l8.fn0 | refine kD.cons ?_ ?_ | refine l8.agg ?_ | refine l8.tup ?_))):A:=s
theorem aj {A:Prop} (s:A:=by repeat (first | exact sn.nil | refine sn.any ?_ | refine sn.eq rfl ?_)):A:=s
theorem gm {A B C:Prop} (aI:List Nat) (c:C) (h:B) (s:si aI C->Hid B->A:=by intro hC hQ;(refine GL.uP hC l6 rfl kC rfl ?_;refine tD dy eJ ?_);exact hQ.1):A:=s ⟨c⟩ ⟨h⟩
theorem U {A B C:Prop} (aI:List Nat) (c:C) (h:B) (s:si aI C->Hid B->A:=by intro hC hQ;(refine GL.uP hC l6 rfl kC rfl ?_;refine tD dy eJ ?_);refine ab ?_;exact hQ.1):A:=s ⟨c⟩ ⟨h⟩
theorem wK {A B C:Prop} (aI:List Nat) (c:C) (h:B) (s:si aI C->Hid B->A:=by intro hC hQ;(refine OA rfl rfl (GL.uP hC l6 rfl kC rfl (GL.nil (aJ (eD.mk iK ?_))));refine nV dy eJ ?_);exact hQ.1):A:=s ⟨c⟩ ⟨h⟩
theorem ax {A B C:Prop} (aI:List Nat) (c:C) (h:B) (s:si aI C->Hid B->A:=by intro hC hQ;(refine OA rfl rfl (GL.uP hC l6 rfl kC rfl (GL.nil (aJ (eD.mk iK ?_))));refine nV dy eJ ?_);refine ai ?_;exact hQ.1):A:=s ⟨c⟩ ⟨h⟩
theorem Wm {A B C:Prop} (aI:List Nat) (c:C) (h:B) (s:si aI C->Hid B->A:=by intro hC hQ;(refine Pq rfl rfl rfl (by first | exact rfl | assumption) (GL.uP hC l6 rfl kC rfl (GL.nil (aJ (eD.mk iK ?_))));refine nV dy eJ ?_);exact hQ.1):A:=s ⟨c⟩ ⟨h⟩
theorem bz {A B C:Prop} (aI:List Nat) (c:C) (h:B) (s:si aI C->Hid B->A:=by intro hC hQ;(refine Pq rfl rfl rfl (by first | exact rfl | assumption) (GL.uP hC l6 rfl kC rfl (GL.nil (aJ (eD.mk iK ?_))));refine nV dy eJ ?_);refine ai ?_;exact hQ.1):A:=s ⟨c⟩ ⟨h⟩
theorem iw {A B C:Prop} (aI:List Nat) (c:C) (h:B) (s:si aI C->Hid B->A:=by intro hC hQ;(refine GL.Kx hC rfl rfl rfl kC ?_;rintro _ _ ⟨rfl,rfl⟩;refine ⟨by simp,?_⟩;refine tD dy eJ ?_);exact hQ.1):A:=s ⟨c⟩ ⟨h⟩
theorem nB {A B C:Prop} (aI:List Nat) (c:C) (h:B) (s:si aI C->Hid B->A:=by intro hC hQ;(refine GL.Ky hC rfl rfl rfl kC ?_;rintro _ _ ⟨rfl,rfl⟩;refine ⟨by simp,?_⟩;refine tD dy eJ ?_);exact hQ.1):A:=s ⟨c⟩ ⟨h⟩
theorem x7 {A B C:Prop} (aI:List Nat) (c:C) (h:B) (s:si aI C->Hid B->A:=by intro hC hQ;(refine OA rfl rfl (GL.Kx hC rfl rfl rfl kC ?_);rintro _ _ ⟨rfl,rfl⟩;refine ⟨by simp,(GL.nil (aJ (eD.mk iK ?_)))⟩;refine nV dy eJ ?_);exact hQ.1):A:=s ⟨c⟩ ⟨h⟩
theorem nC {A B C:Prop} (aI:List Nat) (c:C) (h:B) (s:si aI C->Hid B->A:=by intro hC hQ;(refine OA rfl rfl (GL.Ky hC rfl rfl rfl kC ?_);rintro _ _ ⟨rfl,rfl⟩;refine ⟨by simp,(GL.nil (aJ (eD.mk iK ?_)))⟩;refine nV dy eJ ?_);exact hQ.1):A:=s ⟨c⟩ ⟨h⟩
theorem b9 {A B C:Prop} (aI:List Nat) (c:C) (h:B) (s:si aI C->Hid B->A:=by intro hC hQ;(refine GL.R5 hC l6 rfl kC ?_);exact hQ.1):A:=s ⟨c⟩ ⟨h⟩
theorem cM {A B C D : Prop} (f : C) (n : D) (h : B) (s : C -> D -> Hid B -> A := by intro hC hD hQ;refine GC.enter hC hD rfl (by simp only [xl,Eg,Nat.reduceSub];rfl) ?_;exact hQ.1) : A := s f n ⟨h⟩
theorem ah {A B C D : Prop} (f : C) (n : D) (h : B) (s : C -> D -> Hid B -> A := by intro hC hD hQ;refine GC.enter hC hD rfl (by simp only [xl,Eg,Nat.reduceSub];rfl) ?_;refine ab ?_;exact hQ.1) : A := s f n ⟨h⟩
theorem al {A : Prop} (s : A := by refine bI ?_;exact ⟨rfl,rfl⟩) : A := s
theorem ar {A : Prop} (s : A := by refine ab ?_;refine bI ?_;exact ⟨rfl,rfl⟩) : A := s
theorem fm {A : Prop} (s : A := by refine cl ?_;exact ⟨rfl,rfl⟩) : A := s
theorem eu {A : Prop} (s : A := by refine ab ?_;refine cl ?_;exact ⟨rfl,rfl⟩) : A := s
theorem ew {A : Prop} (s : A := by refine yH ?_;exact ⟨rfl,rfl⟩) : A := s
theorem l7 {A : Prop} (s : A := by refine ab ?_;refine yH ?_;exact ⟨rfl,rfl⟩) : A := s
theorem dm {A : Prop} (s : A := by refine Ix ?_;exact ⟨rfl,rfl⟩) : A := s
theorem jK {A : Prop} (s : A := by refine ab ?_;refine Ix ?_;exact ⟨rfl,rfl⟩) : A := s
end Go.Xg
namespace Go.Xw
instance:az Go.Proofs.Tryz.prog 8:=⟨by kernel_rfl⟩
instance:az Go.Proofs.Tryz.prog 9:=⟨by kernel_rfl⟩
instance:az Go.Proofs.Tryz.prog 10:=⟨by kernel_rfl⟩
instance:az Go.Proofs.Tryz.prog 11:=⟨by kernel_rfl⟩
instance:az Go.Proofs.Tryz.prog 12:=⟨by kernel_rfl⟩
instance:az Go.Proofs.Tryz.prog 13:=⟨by kernel_rfl⟩
instance:az Go.Proofs.Tryz.prog 14:=⟨by kernel_rfl⟩
instance:az Go.Proofs.Tryz.prog 15:=⟨by kernel_rfl⟩
instance:az Go.Proofs.Tryz.prog 16:=⟨by kernel_rfl⟩
instance:az Go.Proofs.Tryz.prog 17:=⟨by kernel_rfl⟩
instance:az Go.Proofs.Tryz.prog 18:=⟨by kernel_rfl⟩
instance:az Go.Proofs.Tryz.prog 19:=⟨by kernel_rfl⟩
instance:az Go.Proofs.Tryz.prog 20:=⟨by kernel_rfl⟩
instance:az Go.Proofs.Tryz.prog 21:=⟨by kernel_rfl⟩
instance:az Go.Proofs.Tryz.prog 22:=⟨by kernel_rfl⟩
instance:az Go.Proofs.Tryz.prog 23:=⟨by kernel_rfl⟩
instance:az Go.Proofs.Tryz.prog 24:=⟨by kernel_rfl⟩
instance:az Go.Proofs.Tryz.prog 25:=⟨by kernel_rfl⟩
instance:az Go.Proofs.Tryz.prog 26:=⟨by kernel_rfl⟩
instance:az Go.Proofs.Tryz.prog 27:=⟨by kernel_rfl⟩
instance:az Go.Proofs.Tryz.prog 28:=⟨by kernel_rfl⟩
instance:az Go.Proofs.Tryz.prog 29:=⟨by kernel_rfl⟩
instance:az Go.Proofs.Tryz.prog 30:=⟨by kernel_rfl⟩
instance:az Go.Proofs.Tryz.prog 31:=⟨by kernel_rfl⟩
instance:az Go.Proofs.Tryz.prog 32:=⟨by kernel_rfl⟩
instance:az Go.Proofs.Tryz.prog 33:=⟨by kernel_rfl⟩
instance:az Go.Proofs.Tryz.prog 34:=⟨by kernel_rfl⟩
instance:az Go.Proofs.Tryz.prog 35:=⟨by kernel_rfl⟩
instance:az Go.Proofs.Tryz.prog 36:=⟨by kernel_rfl⟩
instance:az Go.Proofs.Tryz.prog 37:=⟨by kernel_rfl⟩
instance:az Go.Proofs.Tryz.prog 38:=⟨by kernel_rfl⟩
instance:az Go.Proofs.Tryz.prog 39:=⟨by kernel_rfl⟩
instance:az Go.Proofs.Tryz.prog 40:=⟨by kernel_rfl⟩
instance:az Go.Proofs.Tryz.prog 41:=⟨by kernel_rfl⟩
instance:az Go.Proofs.Tryz.prog 42:=⟨by kernel_rfl⟩
instance:az Go.Proofs.Tryz.prog 43:=⟨by kernel_rfl⟩
instance:az Go.Proofs.Tryz.prog 44:=⟨by kernel_rfl⟩
instance:az Go.Proofs.Tryz.prog 45:=⟨by kernel_rfl⟩
instance:az Go.Proofs.Tryz.prog 46:=⟨by kernel_rfl⟩
instance:az Go.Proofs.Tryz.prog 47:=⟨by kernel_rfl⟩
instance:az Go.Proofs.Tryz.prog 48:=⟨by kernel_rfl⟩
instance:az Go.Proofs.Tryz.prog 49:=⟨by kernel_rfl⟩
instance:az Go.Proofs.Tryz.prog 50:=⟨by kernel_rfl⟩
instance:az Go.Proofs.Tryz.prog 51:=⟨by kernel_rfl⟩
instance:az Go.Proofs.Tryz.prog 52:=⟨by kernel_rfl⟩
instance:az Go.Proofs.Tryz.prog 53:=⟨by kernel_rfl⟩
instance:az Go.Proofs.Tryz.prog 54:=⟨by kernel_rfl⟩
instance:az Go.Proofs.Tryz.prog 55:=⟨by kernel_rfl⟩
instance:az Go.Proofs.Tryz.prog 56:=⟨by kernel_rfl⟩
instance:az Go.Proofs.Tryz.prog 57:=⟨by kernel_rfl⟩
instance:az Go.Proofs.Tryz.prog 58:=⟨by kernel_rfl⟩
instance:az Go.Proofs.Tryz.prog 59:=⟨by kernel_rfl⟩
instance:az Go.Proofs.Tryz.prog 60:=⟨by kernel_rfl⟩
instance:az Go.Proofs.Tryz.prog 61:=⟨by kernel_rfl⟩
instance:az Go.Proofs.Tryz.prog 62:=⟨by kernel_rfl⟩
instance:az Go.Proofs.Tryz.prog 63:=⟨by kernel_rfl⟩
instance:az Go.Proofs.Tryz.prog 64:=⟨by kernel_rfl⟩
instance:az Go.Proofs.Tryz.prog 65:=⟨by kernel_rfl⟩
instance:az Go.Proofs.Tryz.prog 66:=⟨by kernel_rfl⟩
instance:az Go.Proofs.Tryz.prog 67:=⟨by kernel_rfl⟩
instance:az Go.Proofs.Tryz.prog 68:=⟨by kernel_rfl⟩
instance:az Go.Proofs.Tryz.prog 69:=⟨by kernel_rfl⟩
instance:az Go.Proofs.Tryz.prog 70:=⟨by kernel_rfl⟩
instance:az Go.Proofs.Tryz.prog 71:=⟨by kernel_rfl⟩
instance:az Go.Proofs.Tryz.prog 72:=⟨by kernel_rfl⟩
instance:az Go.Proofs.Tryz.prog 73:=⟨by kernel_rfl⟩
instance:az Go.Proofs.Tryz.prog 74:=⟨by kernel_rfl⟩
instance:az Go.Proofs.Tryz.prog 75:=⟨by kernel_rfl⟩
instance:az Go.Proofs.Tryz.prog 76:=⟨by kernel_rfl⟩
instance:az Go.Proofs.Tryz.prog 77:=⟨by kernel_rfl⟩
instance:az Go.Proofs.Tryz.prog 78:=⟨by kernel_rfl⟩
instance:az Go.Proofs.Tryz.prog 79:=⟨by kernel_rfl⟩
instance:az Go.Proofs.Tryz.prog 80:=⟨by kernel_rfl⟩
instance:az Go.Proofs.Tryz.prog 81:=⟨by kernel_rfl⟩
instance:az Go.Proofs.Tryz.prog 82:=⟨by kernel_rfl⟩
instance:az Go.Proofs.Tryz.prog 83:=⟨by kernel_rfl⟩
instance:az Go.Proofs.Tryz.prog 84:=⟨by kernel_rfl⟩
instance:az Go.Proofs.Tryz.prog 85:=⟨by kernel_rfl⟩
instance:az Go.Proofs.Tryz.prog 86:=⟨by kernel_rfl⟩
instance:az Go.Proofs.Tryz.prog 87:=⟨by kernel_rfl⟩
instance:az Go.Proofs.Tryz.prog 88:=⟨by kernel_rfl⟩
instance:az Go.Proofs.Tryz.prog 89:=⟨by kernel_rfl⟩
instance:az Go.Proofs.Tryz.prog 90:=⟨by kernel_rfl⟩
instance:az Go.Proofs.Tryz.prog 91:=⟨by kernel_rfl⟩
instance:az Go.Proofs.Tryz.prog 92:=⟨by kernel_rfl⟩
instance:az Go.Proofs.Tryz.prog 93:=⟨by kernel_rfl⟩
instance:az Go.Proofs.Tryz.prog 94:=⟨by kernel_rfl⟩
instance:az Go.Proofs.Tryz.prog 95:=⟨by kernel_rfl⟩
instance:az Go.Proofs.Tryz.prog 96:=⟨by kernel_rfl⟩
instance:az Go.Proofs.Tryz.prog 97:=⟨by kernel_rfl⟩
instance:az Go.Proofs.Tryz.prog 98:=⟨by kernel_rfl⟩
instance:az Go.Proofs.Tryz.prog 99:=⟨by kernel_rfl⟩
instance:az Go.Proofs.Tryz.prog 100:=⟨by kernel_rfl⟩
instance:az Go.Proofs.Tryz.prog 101:=⟨by kernel_rfl⟩
instance:az Go.Proofs.Tryz.prog 102:=⟨by kernel_rfl⟩
instance:az Go.Proofs.Tryz.prog 103:=⟨by kernel_rfl⟩
instance:az Go.Proofs.Tryz.prog 104:=⟨by kernel_rfl⟩
instance:az Go.Proofs.Tryz.prog 105:=⟨by kernel_rfl⟩
instance:az Go.Proofs.Tryz.prog 106:=⟨by kernel_rfl⟩
instance:az Go.Proofs.Tryz.prog 107:=⟨by kernel_rfl⟩
instance:az Go.Proofs.Tryz.prog 108:=⟨by kernel_rfl⟩
instance:az Go.Proofs.Tryz.prog 109:=⟨by kernel_rfl⟩
instance:az Go.Proofs.Tryz.prog 110:=⟨by kernel_rfl⟩
instance:az Go.Proofs.Tryz.prog 111:=⟨by kernel_rfl⟩
instance:az Go.Proofs.Tryz.prog 112:=⟨by kernel_rfl⟩
instance:az Go.Proofs.Tryz.prog 113:=⟨by kernel_rfl⟩
instance:az Go.Proofs.Tryz.prog 114:=⟨by kernel_rfl⟩
instance:az Go.Proofs.Tryz.prog 115:=⟨by kernel_rfl⟩
instance:az Go.Proofs.Tryz.prog 116:=⟨by kernel_rfl⟩
instance:az Go.Proofs.Tryz.prog 117:=⟨by kernel_rfl⟩
instance:az Go.Proofs.Tryz.prog 118:=⟨by kernel_rfl⟩
instance:az Go.Proofs.Tryz.prog 119:=⟨by kernel_rfl⟩
instance:az Go.Proofs.Tryz.prog 120:=⟨by kernel_rfl⟩
instance:az Go.Proofs.Tryz.prog 121:=⟨by kernel_rfl⟩
instance:az Go.Proofs.Tryz.prog 122:=⟨by kernel_rfl⟩
instance:az Go.Proofs.Tryz.prog 123:=⟨by kernel_rfl⟩
instance:az Go.Proofs.Tryz.prog 124:=⟨by kernel_rfl⟩
instance:az Go.Proofs.Tryz.prog 125:=⟨by kernel_rfl⟩
instance:az Go.Proofs.Tryz.prog 126:=⟨by kernel_rfl⟩
instance:az Go.Proofs.Tryz.prog 127:=⟨by kernel_rfl⟩
instance:az Go.Proofs.Tryz.prog 128:=⟨by kernel_rfl⟩
instance:az Go.Proofs.Tryz.prog 129:=⟨by kernel_rfl⟩
instance:az Go.Proofs.Tryz.prog 130:=⟨by kernel_rfl⟩
instance:az Go.Proofs.Tryz.prog 131:=⟨by kernel_rfl⟩
instance:az Go.Proofs.Tryz.prog 132:=⟨by kernel_rfl⟩
instance:az Go.Proofs.Tryz.prog 133:=⟨by kernel_rfl⟩
instance:az Go.Proofs.Tryz.prog 134:=⟨by kernel_rfl⟩
instance:az Go.Proofs.Tryz.prog 135:=⟨by kernel_rfl⟩
instance:az Go.Proofs.Tryz.prog 136:=⟨by kernel_rfl⟩
instance:az Go.Proofs.Tryz.prog 137:=⟨by kernel_rfl⟩
instance:az Go.Proofs.Tryz.prog 138:=⟨by kernel_rfl⟩
instance:az Go.Proofs.Tryz.prog 139:=⟨by kernel_rfl⟩
instance:az Go.Proofs.Tryz.prog 140:=⟨by kernel_rfl⟩
instance:az Go.Proofs.Tryz.prog 141:=⟨by kernel_rfl⟩
instance:az Go.Proofs.Tryz.prog 142:=⟨by kernel_rfl⟩
instance:az Go.Proofs.Tryz.prog 143:=⟨by kernel_rfl⟩
instance:az Go.Proofs.Tryz.prog 144:=⟨by kernel_rfl⟩
instance:az Go.Proofs.Tryz.prog 145:=⟨by kernel_rfl⟩
instance:az Go.Proofs.Tryz.prog 146:=⟨by kernel_rfl⟩
instance:az Go.Proofs.Tryz.prog 147:=⟨by kernel_rfl⟩
instance:az Go.Proofs.Tryz.prog 148:=⟨by kernel_rfl⟩
instance:az Go.Proofs.Tryz.prog 149:=⟨by kernel_rfl⟩
instance:az Go.Proofs.Tryz.prog 150:=⟨by kernel_rfl⟩
instance:az Go.Proofs.Tryz.prog 151:=⟨by kernel_rfl⟩
instance:az Go.Proofs.Tryz.prog 152:=⟨by kernel_rfl⟩
instance:az Go.Proofs.Tryz.prog 153:=⟨by kernel_rfl⟩
instance:az Go.Proofs.Tryz.prog 154:=⟨by kernel_rfl⟩
instance:az Go.Proofs.Tryz.prog 155:=⟨by kernel_rfl⟩
instance:az Go.Proofs.Tryz.prog 156:=⟨by kernel_rfl⟩
instance:az Go.Proofs.Tryz.prog 157:=⟨by kernel_rfl⟩
instance:az Go.Proofs.Tryz.prog 158:=⟨by kernel_rfl⟩
instance:az Go.Proofs.Tryz.prog 159:=⟨by kernel_rfl⟩
instance:az Go.Proofs.Tryz.prog 160:=⟨by kernel_rfl⟩
instance:az Go.Proofs.Tryz.prog 162:=⟨by kernel_rfl⟩
instance:az Go.Proofs.Tryz.prog 163:=⟨by kernel_rfl⟩
instance:az Go.Proofs.Tryz.prog 164:=⟨by kernel_rfl⟩
instance:az Go.Proofs.Tryz.prog 165:=⟨by kernel_rfl⟩
instance:az Go.Proofs.Tryz.prog 166:=⟨by kernel_rfl⟩
instance:az Go.Proofs.Tryz.prog 167:=⟨by kernel_rfl⟩
instance:az Go.Proofs.Tryz.prog 168:=⟨by kernel_rfl⟩
instance:az Go.Proofs.Tryz.prog 170:=⟨by kernel_rfl⟩
instance:az Go.Proofs.Tryz.prog 172:=⟨by kernel_rfl⟩
instance:az Go.Proofs.Tryz.prog 173:=⟨by kernel_rfl⟩
instance:az Go.Proofs.Tryz.prog 174:=⟨by kernel_rfl⟩
instance:az Go.Proofs.Tryz.prog 175:=⟨by kernel_rfl⟩
instance:az Go.Proofs.Tryz.prog 176:=⟨by kernel_rfl⟩
instance:az Go.Proofs.Tryz.prog 177:=⟨by kernel_rfl⟩
instance:az Go.Proofs.Tryz.prog 178:=⟨by kernel_rfl⟩
instance:az Go.Proofs.Tryz.prog 179:=⟨by kernel_rfl⟩
instance:az Go.Proofs.Tryz.prog 180:=⟨by kernel_rfl⟩
instance:az Go.Proofs.Tryz.prog 181:=⟨by kernel_rfl⟩
instance:az Go.Proofs.Tryz.prog 182:=⟨by kernel_rfl⟩
instance:az Go.Proofs.Tryz.prog 183:=⟨by kernel_rfl⟩
instance:az Go.Proofs.Tryz.prog 184:=⟨by kernel_rfl⟩
instance:az Go.Proofs.Tryz.prog 185:=⟨by kernel_rfl⟩
instance:az Go.Proofs.Tryz.prog 186:=⟨by kernel_rfl⟩
instance:az Go.Proofs.Tryz.prog 187:=⟨by kernel_rfl⟩
instance:az Go.Proofs.Tryz.prog 188:=⟨by kernel_rfl⟩
instance:az Go.Proofs.Tryz.prog 189:=⟨by kernel_rfl⟩
instance:az Go.Proofs.Tryz.prog 190:=⟨by kernel_rfl⟩
instance:az Go.Proofs.Tryz.prog 191:=⟨by kernel_rfl⟩
instance:az Go.Proofs.Tryz.prog 192:=⟨by kernel_rfl⟩
instance:az Go.Proofs.Tryz.prog 193:=⟨by kernel_rfl⟩
instance:az Go.Proofs.Tryz.prog 194:=⟨by kernel_rfl⟩
instance:az Go.Proofs.Tryz.prog 195:=⟨by kernel_rfl⟩
instance:az Go.Proofs.Tryz.prog 196:=⟨by kernel_rfl⟩
instance:az Go.Proofs.Tryz.prog 197:=⟨by kernel_rfl⟩
instance:az Go.Proofs.Tryz.prog 198:=⟨by kernel_rfl⟩
instance:az Go.Proofs.Tryz.prog 199:=⟨by kernel_rfl⟩
instance:az Go.Proofs.Tryz.prog 200:=⟨by kernel_rfl⟩
instance:az Go.Proofs.Tryz.prog 202:=⟨by kernel_rfl⟩
instance:az Go.Proofs.Tryz.prog 204:=⟨by kernel_rfl⟩
instance:az Go.Proofs.Tryz.prog 209:=⟨by kernel_rfl⟩
instance:az Go.Proofs.Tryz.prog 210:=⟨by kernel_rfl⟩
instance:az Go.Proofs.Tryz.prog 211:=⟨by kernel_rfl⟩
instance:az Go.Proofs.Tryz.prog 212:=⟨by kernel_rfl⟩
instance:az Go.Proofs.Tryz.prog 213:=⟨by kernel_rfl⟩
instance:az Go.Proofs.Tryz.prog 214:=⟨by kernel_rfl⟩
instance:az Go.Proofs.Tryz.prog 215:=⟨by kernel_rfl⟩
instance:az Go.Proofs.Tryz.prog 216:=⟨by kernel_rfl⟩
instance:az Go.Proofs.Tryz.prog 217:=⟨by kernel_rfl⟩
instance:az Go.Proofs.Tryz.prog 218:=⟨by kernel_rfl⟩
instance:az Go.Proofs.Tryz.prog 219:=⟨by kernel_rfl⟩
instance:az Go.Proofs.Tryz.prog 220:=⟨by kernel_rfl⟩
instance:az Go.Proofs.Tryz.prog 228:=⟨by kernel_rfl⟩
instance:az Go.Proofs.Tryz.prog 229:=⟨by kernel_rfl⟩
instance:az Go.Proofs.Tryz.prog 230:=⟨by kernel_rfl⟩
instance:az Go.Proofs.Tryz.prog 231:=⟨by kernel_rfl⟩
instance:az Go.Proofs.Tryz.prog 232:=⟨by kernel_rfl⟩
instance:az Go.Proofs.Tryz.prog 233:=⟨by kernel_rfl⟩
instance:az Go.Proofs.Tryz.prog 234:=⟨by kernel_rfl⟩
instance:az Go.Proofs.Tryz.prog 242:=⟨by kernel_rfl⟩
instance:az Go.Proofs.Tryz.prog 243:=⟨by kernel_rfl⟩
instance:az Go.Proofs.Tryz.prog 244:=⟨by kernel_rfl⟩
instance:az Go.Proofs.Tryz.prog 248:=⟨by kernel_rfl⟩
instance:az Go.Proofs.Tryz.prog 249:=⟨by kernel_rfl⟩
instance:az Go.Proofs.Tryz.prog 252:=⟨by kernel_rfl⟩
instance:Ty Go.Proofs.Tryz.prog 3 false 1:=⟨by kernel_rfl,by kernel_rfl⟩
instance:qS Go.Proofs.Tryz.prog 3 (.int .i64 (0)):=⟨by kernel_rfl⟩
instance:Go.Xg.II Go.Proofs.Tryz.prog 3 .i64:=⟨by kernel_rfl⟩
instance:Go.Xg.II Go.Proofs.Tryz.prog 5 .u8:=⟨by kernel_rfl⟩
instance:Ty Go.Proofs.Tryz.prog 9 false 1:=⟨by kernel_rfl,by kernel_rfl⟩
instance:o8 Go.Proofs.Tryz.prog 9:=⟨by kernel_rfl⟩
instance:Ty Go.Proofs.Tryz.prog 22 false 1:=⟨by kernel_rfl,by kernel_rfl⟩
instance:qS Go.Proofs.Tryz.prog 22 (.slice none 0 0):=⟨by kernel_rfl⟩
instance:mF Go.Proofs.Tryz.prog 22 9 1:=⟨by kernel_rfl,by kernel_rfl⟩
instance:n7 Go.Proofs.Tryz.prog 22 9 1 16:=⟨by kernel_rfl⟩
instance:o7 Go.Proofs.Tryz.prog 22 9 1 [(.string ⟨#[]⟩)]:=⟨by kernel_rfl,by kernel_rfl,by kernel_rfl,rfl,by decide,fun _=>rfl⟩
instance:Ty Go.Proofs.Tryz.prog 23 false 1:=⟨by kernel_rfl,by kernel_rfl⟩
instance:mF Go.Proofs.Tryz.prog 23 76 2:=⟨by kernel_rfl,by kernel_rfl⟩
instance:Ty Go.Proofs.Tryz.prog 24 false 1:=⟨by kernel_rfl,by kernel_rfl⟩
instance:mF Go.Proofs.Tryz.prog 24 79 3:=⟨by kernel_rfl,by kernel_rfl⟩
instance:Ty Go.Proofs.Tryz.prog 25 false 1:=⟨by kernel_rfl,by kernel_rfl⟩
instance:mF Go.Proofs.Tryz.prog 25 81 5:=⟨by kernel_rfl,by kernel_rfl⟩
instance:Ty Go.Proofs.Tryz.prog 27 true 4:=⟨by kernel_rfl,by kernel_rfl⟩
instance:dn Go.Proofs.Tryz.prog 27 0 0 1 false:=⟨by kernel_rfl⟩
instance:dn Go.Proofs.Tryz.prog 27 1 1 1 false:=⟨by kernel_rfl⟩
instance:dn Go.Proofs.Tryz.prog 27 2 2 1 false:=⟨by kernel_rfl⟩
instance:dn Go.Proofs.Tryz.prog 27 3 3 1 false:=⟨by kernel_rfl⟩
instance:Ty Go.Proofs.Tryz.prog 30 false 1:=⟨by kernel_rfl,by kernel_rfl⟩
instance:mF Go.Proofs.Tryz.prog 30 86 2:=⟨by kernel_rfl,by kernel_rfl⟩
instance:n7 Go.Proofs.Tryz.prog 30 86 2 24:=⟨by kernel_rfl⟩
instance:o7 Go.Proofs.Tryz.prog 30 86 2 [(.string ⟨#[]⟩),(.int .i64 (0))]:=⟨by kernel_rfl,by kernel_rfl,by kernel_rfl,rfl,by decide,fun h=>by cases h⟩
instance:Ty Go.Proofs.Tryz.prog 31 false 1:=⟨by kernel_rfl,by kernel_rfl⟩
instance:mF Go.Proofs.Tryz.prog 31 85 3:=⟨by kernel_rfl,by kernel_rfl⟩
instance:n7 Go.Proofs.Tryz.prog 31 85 3 48:=⟨by kernel_rfl⟩
instance:o7 Go.Proofs.Tryz.prog 31 85 3 [(.string ⟨#[]⟩),(.slice none 0 0),(.int .i64 (0))]:=⟨by kernel_rfl,by kernel_rfl,by kernel_rfl,rfl,by decide,fun h=>by cases h⟩
instance:Ty Go.Proofs.Tryz.prog 32 false 1:=⟨by kernel_rfl,by kernel_rfl⟩
instance:mF Go.Proofs.Tryz.prog 32 53 5:=⟨by kernel_rfl,by kernel_rfl⟩
instance:n7 Go.Proofs.Tryz.prog 32 53 5 64:=⟨by kernel_rfl⟩
instance:o7 Go.Proofs.Tryz.prog 32 53 5 [(.int .i64 (0)),(.int .i64 (0)),(.int .i64 (0)),(.string ⟨#[]⟩),(.slice none 0 0)]:=⟨by kernel_rfl,by kernel_rfl,by kernel_rfl,rfl,by decide,fun h=>by cases h⟩
instance:Ty Go.Proofs.Tryz.prog 34 true 4:=⟨by kernel_rfl,by kernel_rfl⟩
instance:qS Go.Proofs.Tryz.prog 34 (.agg #[(.slice none 0 0),(.slice none 0 0),(.slice none 0 0),(.slice none 0 0)]):=⟨by kernel_rfl⟩
instance:dn Go.Proofs.Tryz.prog 34 0 0 1 false:=⟨by kernel_rfl⟩
instance:dn Go.Proofs.Tryz.prog 34 1 1 1 false:=⟨by kernel_rfl⟩
instance:dn Go.Proofs.Tryz.prog 34 2 2 1 false:=⟨by kernel_rfl⟩
instance:dn Go.Proofs.Tryz.prog 34 3 3 1 false:=⟨by kernel_rfl⟩
instance:tE Go.Proofs.Tryz.prog 34 [(0,1),(1,1),(2,1),(3,1)] [(.slice none 0 0),(.slice none 0 0),(.slice none 0 0),(.slice none 0 0)]:=⟨by kernel_rfl,by kernel_rfl⟩
instance:Ty Go.Proofs.Tryz.prog 51 false 1:=⟨by kernel_rfl,by kernel_rfl⟩
instance:mF Go.Proofs.Tryz.prog 51 3 1:=⟨by kernel_rfl,by kernel_rfl⟩
instance:n7 Go.Proofs.Tryz.prog 51 3 1 8:=⟨by kernel_rfl⟩
instance:o7 Go.Proofs.Tryz.prog 51 3 1 [(.int .i64 (0))]:=⟨by kernel_rfl,by kernel_rfl,by kernel_rfl,rfl,by decide,fun _=>rfl⟩
instance:Ty Go.Proofs.Tryz.prog 53 true 5:=⟨by kernel_rfl,by kernel_rfl⟩
instance:qS Go.Proofs.Tryz.prog 53 (.agg #[(.int .i64 (0)),(.int .i64 (0)),(.int .i64 (0)),(.string ⟨#[]⟩),(.slice none 0 0)]):=⟨by kernel_rfl⟩
instance:dn Go.Proofs.Tryz.prog 53 0 0 1 false:=⟨by kernel_rfl⟩
instance:dn Go.Proofs.Tryz.prog 53 1 1 1 false:=⟨by kernel_rfl⟩
instance:dn Go.Proofs.Tryz.prog 53 2 2 1 false:=⟨by kernel_rfl⟩
instance:dn Go.Proofs.Tryz.prog 53 3 3 1 false:=⟨by kernel_rfl⟩
instance:dn Go.Proofs.Tryz.prog 53 4 4 1 false:=⟨by kernel_rfl⟩
instance:tE Go.Proofs.Tryz.prog 53 [(0,1),(1,1),(2,1),(3,1),(4,1)] [(.int .i64 (0)),(.int .i64 (0)),(.int .i64 (0)),(.string ⟨#[]⟩),(.slice none 0 0)]:=⟨by kernel_rfl,by kernel_rfl⟩
instance:Ty Go.Proofs.Tryz.prog 54 false 1:=⟨by kernel_rfl,by kernel_rfl⟩
instance:mF Go.Proofs.Tryz.prog 54 56 6:=⟨by kernel_rfl,by kernel_rfl⟩
instance:n7 Go.Proofs.Tryz.prog 54 56 6 88:=⟨by kernel_rfl⟩
instance:o7 Go.Proofs.Tryz.prog 54 56 6 [(.int .i64 (0)),(.int .i64 (0)),(.int .i64 (0)),(.string ⟨#[]⟩),(.slice none 0 0),(.slice none 0 0)]:=⟨by kernel_rfl,by kernel_rfl,by kernel_rfl,rfl,by decide,fun h=>by cases h⟩
instance:Ty Go.Proofs.Tryz.prog 56 true 6:=⟨by kernel_rfl,by kernel_rfl⟩
instance:qS Go.Proofs.Tryz.prog 56 (.agg #[(.int .i64 (0)),(.int .i64 (0)),(.int .i64 (0)),(.string ⟨#[]⟩),(.slice none 0 0),(.slice none 0 0)]):=⟨by kernel_rfl⟩
instance:dn Go.Proofs.Tryz.prog 56 0 0 5 true:=⟨by kernel_rfl⟩
instance:dn Go.Proofs.Tryz.prog 56 1 5 1 false:=⟨by kernel_rfl⟩
instance:tE Go.Proofs.Tryz.prog 56 [(0,5),(5,1)] [(.int .i64 (0)),(.int .i64 (0)),(.int .i64 (0)),(.string ⟨#[]⟩),(.slice none 0 0),(.slice none 0 0)]:=⟨by kernel_rfl,by kernel_rfl⟩
instance:Ty Go.Proofs.Tryz.prog 76 true 2:=⟨by kernel_rfl,by kernel_rfl⟩
instance:dn Go.Proofs.Tryz.prog 76 0 0 1 false:=⟨by kernel_rfl⟩
instance:dn Go.Proofs.Tryz.prog 76 1 1 1 false:=⟨by kernel_rfl⟩
instance:Ty Go.Proofs.Tryz.prog 79 true 3:=⟨by kernel_rfl,by kernel_rfl⟩
instance:dn Go.Proofs.Tryz.prog 79 0 0 1 false:=⟨by kernel_rfl⟩
instance:dn Go.Proofs.Tryz.prog 79 1 1 1 false:=⟨by kernel_rfl⟩
instance:dn Go.Proofs.Tryz.prog 79 2 2 1 false:=⟨by kernel_rfl⟩
instance:Ty Go.Proofs.Tryz.prog 81 true 5:=⟨by kernel_rfl,by kernel_rfl⟩
instance:dn Go.Proofs.Tryz.prog 81 0 0 1 false:=⟨by kernel_rfl⟩
instance:dn Go.Proofs.Tryz.prog 81 1 1 1 false:=⟨by kernel_rfl⟩
instance:dn Go.Proofs.Tryz.prog 81 2 2 1 false:=⟨by kernel_rfl⟩
instance:dn Go.Proofs.Tryz.prog 81 3 3 1 false:=⟨by kernel_rfl⟩
instance:dn Go.Proofs.Tryz.prog 81 4 4 1 false:=⟨by kernel_rfl⟩
instance:Ty Go.Proofs.Tryz.prog 85 true 3:=⟨by kernel_rfl,by kernel_rfl⟩
instance:qS Go.Proofs.Tryz.prog 85 (.agg #[(.string ⟨#[]⟩),(.slice none 0 0),(.int .i64 (0))]):=⟨by kernel_rfl⟩
instance:dn Go.Proofs.Tryz.prog 85 0 0 1 false:=⟨by kernel_rfl⟩
instance:dn Go.Proofs.Tryz.prog 85 1 1 1 false:=⟨by kernel_rfl⟩
instance:dn Go.Proofs.Tryz.prog 85 2 2 1 false:=⟨by kernel_rfl⟩
instance:tE Go.Proofs.Tryz.prog 85 [(0,1),(1,1),(2,1)] [(.string ⟨#[]⟩),(.slice none 0 0),(.int .i64 (0))]:=⟨by kernel_rfl,by kernel_rfl⟩
instance:Ty Go.Proofs.Tryz.prog 86 true 2:=⟨by kernel_rfl,by kernel_rfl⟩
instance:qS Go.Proofs.Tryz.prog 86 (.agg #[(.string ⟨#[]⟩),(.int .i64 (0))]):=⟨by kernel_rfl⟩
instance:dn Go.Proofs.Tryz.prog 86 0 0 1 false:=⟨by kernel_rfl⟩
instance:dn Go.Proofs.Tryz.prog 86 1 1 1 false:=⟨by kernel_rfl⟩
instance:tE Go.Proofs.Tryz.prog 86 [(0,1),(1,1)] [(.string ⟨#[]⟩),(.int .i64 (0))]:=⟨by kernel_rfl,by kernel_rfl⟩
instance:Ty Go.Proofs.Tryz.prog 91 false 1:=⟨by kernel_rfl,by kernel_rfl⟩
instance:Ty Go.Proofs.Tryz.prog 100 false 1:=⟨by kernel_rfl,by kernel_rfl⟩
instance:Go.Xg.J7 Go.Proofs.Tryz.prog 100:=Go.Xg.J7.mk' (e:=5) (by kernel_rfl) (by kernel_rfl)
instance:mF Go.Proofs.Tryz.prog 100 5 1:=⟨by kernel_rfl,by kernel_rfl⟩
instance:o7 Go.Proofs.Tryz.prog 100 5 1 [(.int .u8 (0))]:=⟨by kernel_rfl,by kernel_rfl,by kernel_rfl,rfl,by decide,fun _=>rfl⟩
instance:Ty Go.Proofs.Tryz.prog 104 false 1:=⟨by kernel_rfl,by kernel_rfl⟩
instance:qS Go.Proofs.Tryz.prog 104 .nilFunc:=⟨by kernel_rfl⟩
instance:dn Go.Proofs.Tryz.prog 108 0 0 4 true:=⟨by kernel_rfl⟩
instance:dn Go.Proofs.Tryz.prog 108 1 4 1 false:=⟨by kernel_rfl⟩
instance:dn Go.Proofs.Tryz.prog 108 2 5 1 false:=⟨by kernel_rfl⟩
instance:dn Go.Proofs.Tryz.prog 108 3 6 1 false:=⟨by kernel_rfl⟩
instance:tE Go.Proofs.Tryz.prog 108 [(0,4),(4,1),(5,1),(6,1)] [(.slice none 0 0),(.slice none 0 0),(.slice none 0 0),(.slice none 0 0),(.slice none 0 0),(.int .i64 (0)),(.int .i64 (0))]:=⟨by kernel_rfl,by kernel_rfl⟩
instance:Ty Go.Proofs.Tryz.prog 119 false 1:=⟨by kernel_rfl,by kernel_rfl⟩
instance:mF Go.Proofs.Tryz.prog 119 123 1:=⟨by kernel_rfl,by kernel_rfl⟩
instance:n7 Go.Proofs.Tryz.prog 119 123 1 8:=⟨by kernel_rfl⟩
instance:o7 Go.Proofs.Tryz.prog 119 123 1 [(.pointer none)]:=⟨by kernel_rfl,by kernel_rfl,by kernel_rfl,rfl,by decide,fun _=>rfl⟩
instance:Ty Go.Proofs.Tryz.prog 123 false 1:=⟨by kernel_rfl,by kernel_rfl⟩
instance:Ty Go.Proofs.Tryz.prog 126 false 1:=⟨by kernel_rfl,by kernel_rfl⟩
instance:Ty Go.Proofs.Tryz.prog 127 false 1:=⟨by kernel_rfl,by kernel_rfl⟩
instance:Ty Go.Proofs.Tryz.prog 128 false 1:=⟨by kernel_rfl,by kernel_rfl⟩
instance:mF Go.Proofs.Tryz.prog 128 162 4:=⟨by kernel_rfl,by kernel_rfl⟩
instance:n7 Go.Proofs.Tryz.prog 128 162 4 40:=⟨by kernel_rfl⟩
instance:o7 Go.Proofs.Tryz.prog 128 162 4 [(.int .i64 (0)),(.int .i64 (0)),(.string ⟨#[]⟩),(.int .i64 (0))]:=⟨by kernel_rfl,by kernel_rfl,by kernel_rfl,rfl,by decide,fun h=>by cases h⟩
instance:dn Go.Proofs.Tryz.prog 143 0 0 1 false:=⟨by kernel_rfl⟩
instance:dn Go.Proofs.Tryz.prog 143 1 1 1 false:=⟨by kernel_rfl⟩
instance:dn Go.Proofs.Tryz.prog 143 2 2 1 false:=⟨by kernel_rfl⟩
instance:dn Go.Proofs.Tryz.prog 143 3 3 1 false:=⟨by kernel_rfl⟩
instance:dn Go.Proofs.Tryz.prog 143 4 4 1 false:=⟨by kernel_rfl⟩
instance:tE Go.Proofs.Tryz.prog 143 [(0,1),(1,1),(2,1),(3,1),(4,1)] [(.slice none 0 0),(.int .i64 (0)),(.int .i64 (0)),(.int .i64 (0)),(.int .i64 (0))]:=⟨by kernel_rfl,by kernel_rfl⟩
instance:dn Go.Proofs.Tryz.prog 149 0 0 5 true:=⟨by kernel_rfl⟩
instance:dn Go.Proofs.Tryz.prog 149 1 5 1 false:=⟨by kernel_rfl⟩
instance:tE Go.Proofs.Tryz.prog 149 [(0,5),(5,1)] [(.int .i64 (0)),(.int .i64 (0)),(.int .i64 (0)),(.string ⟨#[]⟩),(.slice none 0 0),(.slice none 0 0)]:=⟨by kernel_rfl,by kernel_rfl⟩
instance:Ty Go.Proofs.Tryz.prog 151 true 2:=⟨by kernel_rfl,by kernel_rfl⟩
instance:qS Go.Proofs.Tryz.prog 151 (.agg #[.nilFunc,.nilFunc]):=⟨by kernel_rfl⟩
instance:dn Go.Proofs.Tryz.prog 151 0 0 1 false:=⟨by kernel_rfl⟩
instance:dn Go.Proofs.Tryz.prog 151 1 1 1 false:=⟨by kernel_rfl⟩
instance:tE Go.Proofs.Tryz.prog 151 [(0,1),(1,1)] [.nilFunc,.nilFunc]:=⟨by kernel_rfl,by kernel_rfl⟩
instance:Ty Go.Proofs.Tryz.prog 162 true 4:=⟨by kernel_rfl,by kernel_rfl⟩
instance:qS Go.Proofs.Tryz.prog 162 (.agg #[(.int .i64 (0)),(.int .i64 (0)),(.string ⟨#[]⟩),(.int .i64 (0))]):=⟨by kernel_rfl⟩
instance:dn Go.Proofs.Tryz.prog 162 0 0 1 false:=⟨by kernel_rfl⟩
instance:dn Go.Proofs.Tryz.prog 162 1 1 1 false:=⟨by kernel_rfl⟩
instance:dn Go.Proofs.Tryz.prog 162 2 2 1 false:=⟨by kernel_rfl⟩
instance:dn Go.Proofs.Tryz.prog 162 3 3 1 false:=⟨by kernel_rfl⟩
instance:tE Go.Proofs.Tryz.prog 162 [(0,1),(1,1),(2,1),(3,1)] [(.int .i64 (0)),(.int .i64 (0)),(.string ⟨#[]⟩),(.int .i64 (0))]:=⟨by kernel_rfl,by kernel_rfl⟩
instance:dn Go.Proofs.Tryz.prog 167 0 0 1 false:=⟨by kernel_rfl⟩
instance:dn Go.Proofs.Tryz.prog 167 1 1 1 false:=⟨by kernel_rfl⟩
instance:dn Go.Proofs.Tryz.prog 167 2 2 1 false:=⟨by kernel_rfl⟩
instance:dn Go.Proofs.Tryz.prog 167 3 3 1 false:=⟨by kernel_rfl⟩
instance:dn Go.Proofs.Tryz.prog 167 4 4 1 false:=⟨by kernel_rfl⟩
instance:dn Go.Proofs.Tryz.prog 167 5 5 1 false:=⟨by kernel_rfl⟩
instance:dn Go.Proofs.Tryz.prog 167 6 6 4 true:=⟨by kernel_rfl⟩
instance:tE Go.Proofs.Tryz.prog 167 [(0,1),(1,1),(2,1),(3,1),(4,1),(5,1),(6,4)] [(.slice none 0 0),(.int .i64 (0)),(.int .i64 (0)),(.int .i64 (0)),(.int .i64 (0)),(.slice none 0 0),(.slice none 0 0),(.slice none 0 0),(.slice none 0 0),(.slice none 0 0)]:=⟨by kernel_rfl,by kernel_rfl⟩
instance:Ty Go.Proofs.Tryz.prog 178 false 1:=⟨by kernel_rfl,by kernel_rfl⟩
instance:qS Go.Proofs.Tryz.prog 180 (.agg #[(.pointer none),(.slice none 0 0)]):=⟨by kernel_rfl⟩
instance:dn Go.Proofs.Tryz.prog 180 0 0 1 false:=⟨by kernel_rfl⟩
instance:dn Go.Proofs.Tryz.prog 180 1 1 1 false:=⟨by kernel_rfl⟩
instance:mF Go.Proofs.Tryz.prog 187 22 1:=⟨by kernel_rfl,by kernel_rfl⟩
instance:o7 Go.Proofs.Tryz.prog 187 22 1 [(.slice none 0 0)]:=⟨by kernel_rfl,by kernel_rfl,by kernel_rfl,rfl,by decide,fun _=>rfl⟩
end Go.Xw
set_option maxHeartbeats 1000000
namespace Go.Xg
open Go.RowKit Go.Xw Go.Proofs
open Go.Xp (Tok Nd T aZ one levels)
open Go.Sp
attribute [local irreducible] GW GL GO YG GC GA aQ aR
def c6 (t:Tok):List GV:=[.v (ii t.kind),.v (ii t.n),.v (sv t.s),.v (ii t.at_)]
theorem Nk (t:Tok):GF Tryz.prog 197 [.agg (c6 t)] [] (.v (sv (aZ t))) []:=by
 refine ah Tryz.func197 Tryz.ntmps197 ?_;refine GW.cond rfl (fun h=>?_) (fun h=>?_)
 ·refine ab ?_;refine bI ?_
  have h:t.kind≠3:=by simpa using h
  rw [aZ,if_neg h];exact ⟨rfl,rfl⟩
 ·refine ab ?_;refine bI ?_
  have h:t.kind=3:=by simpa using h
  rw [aZ,if_pos h];exact ⟨rfl,rfl⟩
abbrev iv (l:List Tok):GV:=.sl 4 (l.map c6)
abbrev bR (p:RS):Ob:=.box 143 [iv p.l,.v (ii p.i),.v (ii p.e),.v (ii p.code),.v (ii p.at_)]
theorem j0 {l:List Tok} {i:Nat} {t:Tok} (h:l[i]?=some t):(l.map c6)[i]?=some (c6 t):=by rw [getElem?_map,h];rfl
theorem ky (p:RS) (hp:p.ok):GF Tryz.prog 157 [.loc 0 0] [bR p] (.v (ii p.place)) [bR p]:=by
 obtain ⟨ik,di⟩:=hp
 cases ht:p.l[p.i]? with
 | some t =>
  have hr:=j0 ht;have ao:p.i < p.l.length:=(List.getElem?_eq_some_iff.1 ht).1
  have hd:decide ((p.i:Int) < ((p.l.map c6).length:Int))=true:=by simpa using ao
  refine ah Tryz.func157 Tryz.ntmps157 ?_;refine GW.draw (.q 0 (.q 1 (.q 2 (.q 3 (.q 4 (.q 5 (.q 6 (.q 7 (.q 8 (.q 9 .nil)))))))))) (by kernel_rfl) (by kernel_rfl) ?_;refine ai ?_;refine ab ?_;refine GW.draw (.q 0 (.q 1 (.q 2 (.q 3 (.q 4 (.q 5 (.q 6 (.q 7 (.q 8 (.q 9 (.q 10 (.q 11 .nil)))))))))))) (by kernel_rfl) (by kernel_rfl) ?_;refine ai ?_;refine ab ?_;refine bI ?_;rw [RS.place,ht];exact ⟨rfl,rfl⟩
 | none =>
  have ao:p.l.length<=p.i:=List.getElem?_eq_none_iff.1 ht
  have hd:decide ((p.i:Int) < ((p.l.map c6).length:Int))=false:=by simpa using ao
  refine ah Tryz.func157 Tryz.ntmps157 ?_;refine GW.draw (.q 0 (.q 1 (.q 2 (.q 3 (.q 4 (.q 5 (.q 6 (.q 7 (.q 8 (.q 9 .nil)))))))))) (by kernel_rfl) (by kernel_rfl) ?_;refine ai ?_;refine ab ?_;refine bI ?_;rw [RS.place,ht];exact ⟨rfl,rfl⟩
end Go.Xg
namespace Go.Xg
open Go.RowKit Go.Xw Go.Proofs
open Go.Xp (Tok Nd T aZ one levels)
open Go.Sp
attribute [local irreducible] GW GL GO YG GC GA aQ aR
theorem cY (p:RS) (k:Nat) (hp:p.ok) (hk:k<=1):GF Tryz.prog 159 [.loc 0 0,.v (ii k)] [bR p] (.v (sv (p.sign k))) [bR p]:=by
 obtain ⟨ik,di⟩:=hp
 by_cases hc:p.code=0
 ·have dp:(p.code != 0)=false:=by simpa using hc
  cases ht:p.l[p.i+k]? with
  | some t =>
   have hr:=j0 ht;have ao:p.i+k < p.l.length:=(List.getElem?_eq_some_iff.1 ht).1
   have hd:decide (((p.l.map c6).length:Int)<=((p.i+k:Nat):Int))=false:=by simp;omega
   refine ah Tryz.func159 Tryz.ntmps159 ?_;refine GW.draw (.q 0 (.q 1 (.q 2 (.q 3 (.q 4 (.q 5 (.q 6 (.q 7 (.q 8 (.q 9 (.q 10 (.q 11 (.q 12 (.q 13 (.q 14 (.q 15 (.q 16 (.q 17 (.q 18 .nil))))))))))))))))))) (by kernel_rfl) (by kernel_rfl) ?_;refine ai ?_;refine ab ?_;refine GW.draw (.q 0 (.q 1 (.q 2 (.q 3 (.q 4 (.q 5 (.q 6 (.q 7 (.q 8 (.q 9 (.q 10 (.q 11 (.a 12 (.q 13 .nil)))))))))))))) (by kernel_rfl) (by kernel_rfl) ?_;refine ai ?_;refine ax [] (Nk t) ?_;refine ab ?_;refine bI ?_;rw [RS.sign,if_pos hc,ht];exact ⟨rfl,rfl⟩
  | none =>
   have ao:p.l.length<=p.i+k:=List.getElem?_eq_none_iff.1 ht
   have hd:decide (((p.l.map c6).length:Int)<=((p.i+k:Nat):Int))=true:=by simp;omega
   refine ah Tryz.func159 Tryz.ntmps159 ?_;refine GW.draw (.q 0 (.q 1 (.q 2 (.q 3 (.q 4 (.q 5 (.q 6 (.q 7 (.q 8 (.q 9 (.q 10 (.q 11 (.q 12 (.q 13 (.q 14 (.q 15 (.q 16 (.q 17 (.q 18 .nil))))))))))))))))))) (by kernel_rfl) (by kernel_rfl) ?_;refine ai ?_;refine ab ?_;refine bI ?_;rw [RS.sign,if_pos hc,ht];exact ⟨rfl,rfl⟩
 ·have dp:(p.code != 0)=true:=by simpa using hc
  refine ah Tryz.func159 Tryz.ntmps159 ?_;refine GW.draw (.q 0 (.q 1 (.q 2 (.q 3 (.q 4 (.q 5 (.q 6 (.q 7 (.q 8 (.q 9 (.q 10 (.q 11 (.q 12 (.q 13 (.q 14 (.q 15 (.q 16 (.q 17 (.q 18 .nil))))))))))))))))))) (by kernel_rfl) (by kernel_rfl) ?_;refine ai ?_;refine ab ?_;refine bI ?_;rw [RS.sign,if_neg hc];exact ⟨rfl,rfl⟩
theorem lK (p:RS) (c a:Int):GF Tryz.prog 196 [.loc 0 0,.v (ii c),.v (ii a)] [bR p] (.tup []) [bR (p.fail c a)]:=by
 refine ah Tryz.func196 Tryz.ntmps196 ?_;refine GW.cond rfl (fun h=>?_) (fun h=>?_)
 ·refine ab ?_;refine cl ?_
  have h:p.code=0:=by simpa using h
  rw [RS.fail,if_pos h];exact ⟨rfl,rfl⟩
 ·refine ab ?_;refine cl ?_
  have h:¬ p.code=0:=by simpa using h
  rw [RS.fail,if_neg h];exact ⟨rfl,rfl⟩
theorem cX (p:RS) (s:ae) (hp:p.ok) (hs:s≠[]):GF Tryz.prog 158 [.loc 0 0,.v (sv s)] [bR p] (.tup []) [bR (p.aC s)]:=by
 refine ah Tryz.func158 Tryz.ntmps158 ?_;refine gm [0] (cY p 0 hp (by decide)) ?_
 by_cases h:p.sign 0=s
 ·have h':(!(p.sign 0==s))=false:=by simp [h]
  have hl:=(fv h hs).1;obtain ⟨ik,di⟩:=hp;refine ab ?_;refine cl ?_;rw [RS.aC,if_pos h];exact ⟨rfl,rfl⟩
 ·have h':(!(p.sign 0==s))=true:=by simpa using h
  refine ab ?_;refine U [0] (ky p hp) ?_;refine U [0] (lK p 7 p.place) ?_;refine cl ?_;rw [RS.aC,if_neg h];exact ⟨rfl,rfl⟩
end Go.Xg
namespace Go.Xg
open Go.RowKit Go.Xw Go.Proofs
open Go.Xp (Tok Nd T aZ one levels)
open Go.Sp
attribute [local irreducible] GW GL GO YG GC GA aQ aR
theorem tX (p:RS) (d:Nat) (hp:p.ok):GF Tryz.prog 155 [.loc 0 0,.v (ii d)] [bR p] (.tup []) [bR (p.deep d)]:=by
 by_cases h:d > 60
 ·have h':decide ((60:Int) < (d:Int))=true:=by simp;omega
  refine ah Tryz.func155 Tryz.ntmps155 ?_;refine U [0] (ky p hp) ?_;refine U [0] (lK p 9 p.place) ?_;refine cl ?_;rw [RS.deep,if_pos h];exact ⟨rfl,rfl⟩
 ·have h':decide ((60:Int) < (d:Int))=false:=by simp;omega
  refine ah Tryz.func155 Tryz.ntmps155 ?_;refine cl ?_;rw [RS.deep,if_neg h];exact ⟨rfl,rfl⟩
theorem xK (p:RS) (hp:p.ok):GF Tryz.prog 198 [.loc 0 0] [bR p] (.v (sv p.name.1)) [bR p.name.2]:=by
 obtain ⟨ik,di⟩:=id hp
 by_cases hc:p.code=0
 ·have dp:(p.code != 0)=false:=by simpa using hc
  cases ht:p.l[p.i]? with
  | some t =>
   have hr:=j0 ht;have ao:p.i < p.l.length:=(List.getElem?_eq_some_iff.1 ht).1
   have hd:decide (((p.l.map c6).length:Int)<=(p.i:Int))=false:=by simp;omega
   by_cases hk:t.kind=2
   ·have ln:(t.kind != 2)=false:=by simpa using hk
    by_cases hs:t.s.length > 12
    ·have nS:decide ((12:Int) < (t.s.length:Int))=true:=by simp;omega
     refine ah Tryz.func198 Tryz.ntmps198 ?_;refine GW.draw (.q 0 (.q 1 (.q 2 (.q 3 (.q 4 (.q 5 (.q 6 (.q 7 (.q 8 (.q 9 (.q 10 (.q 11 (.q 12 (.q 13 (.q 14 (.q 15 (.q 16 (.q 17 (.q 18 (.q 19 (.q 20 (.q 21 (.q 22 (.q 23 .nil)))))))))))))))))))))))) (by kernel_rfl) (by kernel_rfl) ?_;refine ai ?_;refine ab ?_;refine GW.draw (.q 0 (.q 1 (.q 2 (.q 3 (.q 4 (.q 5 (.q 6 (.q 7 (.q 8 (.q 9 (.a 10 (.a 11 .nil)))))))))))) (by kernel_rfl) (by kernel_rfl) ?_;refine ai ?_;refine ab ?_;refine U [0] (lK p 8 t.at_) ?_;refine bI ?_;rw [RS.name,if_pos hc,ht];simp only [if_pos hk,if_pos hs];exact ⟨rfl,rfl⟩
    ·have nS:decide ((12:Int) < (t.s.length:Int))=false:=by simp;omega
     refine ah Tryz.func198 Tryz.ntmps198 ?_;refine GW.draw (.q 0 (.q 1 (.q 2 (.q 3 (.q 4 (.q 5 (.q 6 (.q 7 (.q 8 (.q 9 (.q 10 (.q 11 (.q 12 (.q 13 (.q 14 (.q 15 (.q 16 (.q 17 (.q 18 (.q 19 (.q 20 (.q 21 (.q 22 (.q 23 .nil)))))))))))))))))))))))) (by kernel_rfl) (by kernel_rfl) ?_;refine ai ?_;refine ab ?_;refine GW.draw (.q 0 (.q 1 (.q 2 (.q 3 (.q 4 (.q 5 (.q 6 (.q 7 (.q 8 (.q 9 (.a 10 (.a 11 .nil)))))))))))) (by kernel_rfl) (by kernel_rfl) ?_;refine ai ?_;refine ab ?_;refine bI ?_;rw [RS.name,if_pos hc,ht];simp only [if_pos hk,if_neg hs];exact ⟨rfl,rfl⟩
   ·have ln:(t.kind != 2)=true:=by simpa using hk
    refine ah Tryz.func198 Tryz.ntmps198 ?_;refine GW.draw (.q 0 (.q 1 (.q 2 (.q 3 (.q 4 (.q 5 (.q 6 (.q 7 (.q 8 (.q 9 (.q 10 (.q 11 (.q 12 (.q 13 (.q 14 (.q 15 (.q 16 (.q 17 (.q 18 (.q 19 (.q 20 (.q 21 (.q 22 (.q 23 .nil)))))))))))))))))))))))) (by kernel_rfl) (by kernel_rfl) ?_;refine ai ?_;refine ab ?_;refine U [0] (ky p hp) ?_;refine U [0] (lK p 7 p.place) ?_;refine bI ?_;rw [RS.name,if_pos hc,ht];simp only [if_neg hk];exact ⟨rfl,rfl⟩
  | none =>
   have ao:p.l.length<=p.i:=List.getElem?_eq_none_iff.1 ht
   have hd:decide (((p.l.map c6).length:Int)<=(p.i:Int))=true:=by simp;omega
   refine ah Tryz.func198 Tryz.ntmps198 ?_;refine GW.draw (.q 0 (.q 1 (.q 2 (.q 3 (.q 4 (.q 5 (.q 6 (.q 7 (.q 8 (.q 9 (.q 10 (.q 11 (.q 12 (.q 13 (.q 14 (.q 15 (.q 16 (.q 17 (.q 18 (.q 19 (.q 20 (.q 21 (.q 22 (.q 23 .nil)))))))))))))))))))))))) (by kernel_rfl) (by kernel_rfl) ?_;refine ai ?_;refine ab ?_;refine U [0] (ky p hp) ?_;refine U [0] (lK p 7 p.place) ?_;refine bI ?_;rw [RS.name,if_pos hc,ht];exact ⟨rfl,rfl⟩
 ·have dp:(p.code != 0)=true:=by simpa using hc
  refine ah Tryz.func198 Tryz.ntmps198 ?_;refine bI ?_;rw [RS.name,if_neg hc];exact ⟨rfl,rfl⟩
abbrev ints (l:List Int):GV:=.sl 1 (l.map fun i=>[.v (ii i)])
abbrev strs (l:List ae):GV:=.sl 1 (l.map fun s=>[.v (sv s)])
mutual
def R9:T->List GV
 | .mk n k=>[.v (ii n.kind),.v (ii n.at_),.v (ii n.n),.v (sv n.s),ints n.kids,.sl 6 (aH k)]
def aH:List T->List (List GV)
 | []=>[]
 | t::r=>R9 t::aH r
end
abbrev cT (t:T):List GV:=[.v (ii t.n.kind),.v (ii t.n.at_),.v (ii t.n.n),.v (sv t.n.s),ints t.n.kids,.sl 6 (aH t.kids)]
theorem rX (t:T):R9 t=cT t:=by
 cases t;rfl
theorem fT (k a:Int) (s:ae) (l:List T) (rows:List (List GV)) (h:aH l=rows):GF Tryz.prog 156 [.v (ii k),.v (ii a),.v (sv s),.sl 6 rows] [] (.agg (cT (one k a s l))) []:=by
 subst h;refine ah Tryz.func156 Tryz.ntmps156 ?_;refine qF ?_;exact ⟨_,iZ,rfl,rfl⟩
theorem jv:GF Tryz.prog 216 [] [] (.sl 1 (levels.map fun l=>[strs l])) []:=by
 refine ah Tryz.func216 Tryz.ntmps216 ?_
 iterate 10 (refine bC ?_)
 exact ar
theorem Du {xs:List ae} {k:Nat} {s x:ae} (h:xs[k]?=some x):(xs.take (k+1)).contains s=((xs.take k).contains s || (x==s)):=by
 rw [take_add_one,h,List.contains_append];show (_ || [x].contains s)=_
 congr 1
 rw [List.contains_cons,List.contains_nil,Bool.or_false];exact Bool.beq_comm
theorem gE (xs:List ae) (s:ae) (hl:xs.length<=1099511627776):GF Tryz.prog 46 [strs xs,.v (sv s)] [] (.v (.bool (xs.contains s))) []:=by
 refine ah Tryz.func46 Tryz.ntmps46 ?_;refine GW.range (xs.map fun s=>[GV.v (sv s)]).length (fun k fr Γ=>fr=[strs xs,.v (sv s),.any,.any,.any,.any,.any,strs xs,.v (ii ((xs.map fun s=>[GV.v (sv s)]).length:Int)),.v (ii k),.any,.any,.any,.any,.any,.any,.any]/\Γ=[]/\(xs.take k).contains s=false) ?_ (by simpa using hl) ?_ ?_ ?_
 ·exact ⟨_,_,Wk.av aj,rfl,rfl,rfl⟩
 ·rintro k _ _ ⟨rfl,rfl,_⟩;exact ⟨rfl,rfl,rfl⟩
 ·rintro k _ _ ao ⟨rfl,rfl,hc⟩
  have ao:k < xs.length:=by simpa using ao
  have hx:xs[k]?=some xs[k]:=by simp [ao]
  have hr:(xs.map fun s=>[GV.v (sv s)])[k]?=some [.v (sv xs[k])]:=by simp [ao]
  have fG:=Du (s:=s) hx;refine ab ?_;refine GW.cond rfl (fun h2=>?_) (fun h2=>?_)
  ·refine ab ?_;refine bI ?_
   have h3:xs[k]=s:=by simpa using h2
   have:s∈xs:=by rw [<-h3];exact getElem_mem _
   refine ⟨?_,rfl⟩;show GV.v (.bool true)=_;rw [List.contains_iff_mem.2 this]
  ·refine ab ?_;exact ⟨rfl,rfl,_,_,Wk.av aj,rfl,rfl,by rw [fG,hc,h2];rfl⟩
 ·rintro _ _ ⟨rfl,rfl,hc⟩;refine ab ?_;refine bI ?_
  have hc:xs.contains s=false:=by simpa using hc
  refine ⟨?_,rfl⟩;show GV.v (.bool false)=_;rw [hc]
end Go.Xg
namespace Go.Xg
open Go.RowKit Go.Xw
section
variable {P:Program} {m:Nat} {Q:dR} {fr:List GV} {Γ:List Ob}
theorem GW.P2 {c y:Code} {B:Nat} (K:List GV->List Ob->Prop) (h1:GW P m c (aR B (aQ (yP m K) Q)) fr Γ) (h2:∀ fr Γ,K fr Γ->GW P m y Q fr Γ):GW P m c (aR B (aQ (GW P m y Q) Q)) fr Γ:=by
 refine h1.mono fun e fr Γ hq=>?_
 have key:∀ fr Γ,yP m K fr Γ->GW P m y Q fr Γ:=fun fr Γ ⟨bM,aD,hw,hk⟩=>GW.wk hw (h2 _ _ hk)
 cases e with
 | normal=>exact key _ _ hq
 | exit n =>
  simp only [aR] at hq |-;split
  ·rename_i hn;rw [if_pos hn] at hq;exact key _ _ hq
  ·rename_i hn;rw [if_neg hn] at hq;exact hq
 | _=>exact hq
end
section
variable {P:Program} {fn:Func} {m:Nat} {R:GV->List Ob->Prop} {fr:List GV} {Γ:List Ob} {e:Exit}
theorem UI {n:Nat} {t u:Tmp} {T:TypeId} {k:Nat} [hT:Ty P T true k] {i:Nat} {E:TypeId} {cs:List GV} {g:GV} (hr:fn.results=#[.cell t T,.tmp u]) (he:e=.normal\/e=.ret) (hg:cq fr t=.loc i 0) (br:Γ[i]?=some (.box E cs)) (hk:cs.length=k) (fY:cq fr u=g)
  (hm:m<=n) (hl:Bb n (Γ.take n)=true) (fa:(GV.tup [.agg cs,g]).lt n=true) (h:R (.tup [.agg cs,g]) (Γ.take n)):sC P fn m R e fr Γ :=
 ⟨he,fun B K β w l hB hI hF=>by
  obtain ⟨b,vs,h1,h2,h3,h4⟩:=hI.ob i _ br
  have hp:nth l t=.pointer (some ⟨b,0,none⟩):=by
   have:=hF.nth t;rw [hg] at this;generalize nth l t=v at this
   cases this with
   | loc _ _ b' aY=>rw [h1] at aY;cases aY;rfl
  have kW:l.toArray.getD t undef=.pointer (some ⟨b,0,none⟩):=by rw [jG,hp]
  have Ew:=nr (P:=P) (w:=w) (t:=T) (b:=b) (o:=0) (vs:=vs) (k:=k) (by rw [h3.1,hk]) (fun j v hj=>by
   rw [Nat.zero_add,cell_of_row w b j _ E (0,0) h2];simpa using hj)
  have zQ:l[t]?.getD undef=.pointer (some ⟨b,0,none⟩):=by simpa using kW
  refine ⟨.tuple #[.agg vs.toArray,nth l u],K,gH (below n) β,.tup [.agg cs,g],Γ.take n,?_,hI.cut (by omega) hl,?_,h⟩
  ·rw [<-jG l u];simp [results,hr,zQ,asAddr,Ew]
  ·refine Rel.res ?_ fa;subst fY;have hc:aU K β [.agg vs.toArray,nth l u] [.agg cs,cq fr u]:=.cons (.agg vs cs h3.1 h3.2) (.cons (hF.nth u) .nil)
   exact .tup _ _ hc.1 hc.2⟩
theorem Li {n:Nat} {t u s:Tmp} {T:TypeId} {k:Nat} [hT:Ty P T true k] {i:Nat} {E:TypeId} {cs:List GV} {g g':GV} (hr:fn.results=#[.cell t T,.tmp u,.tmp s]) (he:e=.normal\/e=.ret) (hg:cq fr t=.loc i 0) (br:Γ[i]?=some (.box E cs)) (hk:cs.length=k) (fY:cq fr u=g) (Yw:cq fr s=g')
  (hm:m<=n) (hl:Bb n (Γ.take n)=true) (fa:(GV.tup [.agg cs,g,g']).lt n=true) (h:R (.tup [.agg cs,g,g']) (Γ.take n)):sC P fn m R e fr Γ :=
 ⟨he,fun B K β w l hB hI hF=>by
  obtain ⟨b,vs,h1,h2,h3,h4⟩:=hI.ob i _ br
  have hp:nth l t=.pointer (some ⟨b,0,none⟩):=by
   have:=hF.nth t;rw [hg] at this;generalize nth l t=v at this
   cases this with
   | loc _ _ b' aY=>rw [h1] at aY;cases aY;rfl
  have kW:l.toArray.getD t undef=.pointer (some ⟨b,0,none⟩):=by rw [jG,hp]
  have Ew:=nr (P:=P) (w:=w) (t:=T) (b:=b) (o:=0) (vs:=vs) (k:=k) (by rw [h3.1,hk]) (fun j v hj=>by
   rw [Nat.zero_add,cell_of_row w b j _ E (0,0) h2];simpa using hj)
  have zQ:l[t]?.getD undef=.pointer (some ⟨b,0,none⟩):=by simpa using kW
  refine ⟨.tuple #[.agg vs.toArray,nth l u,nth l s],K,gH (below n) β,.tup [.agg cs,g,g'],Γ.take n,?_,hI.cut (by omega) hl,?_,h⟩
  ·rw [<-jG l u,<-jG l s];simp [results,hr,zQ,asAddr,Ew]
  ·refine Rel.res ?_ fa;subst fY Yw;have hc:aU K β [.agg vs.toArray,nth l u,nth l s] [.agg cs,cq fr u,cq fr s]:=.cons (.agg vs cs h3.1 h3.2) (.cons (hF.nth u) (.cons (hF.nth s) .nil))
   exact .tup _ _ hc.1 hc.2⟩
end
end Go.Xg
namespace Go.Xg
open Go.RowKit Go.Xw Go.Proofs
open Go.Xp (Tok Nd T aZ one levels)
open Go.Sp
attribute [local irreducible] GW GL GO YG GC GA aQ aR
abbrev CE (c:UInt8):GV:=.v (.int .u8 (c.toNat:Int))
theorem wg (c:UInt8):GF Tryz.prog 186 [CE c] [] (.v (.bool (small c))) []:=by
 unfold small;refine cM Tryz.func186 Tryz.ntmps186 ?_
 cases h:decide ((97:Int)<=(c.toNat:Int))
 all_goals
  exact ar
theorem we (c:UInt8):GF Tryz.prog 193 [CE c] [] (.v (.bool (dP c))) []:=by
 unfold dP;refine cM Tryz.func193 Tryz.ntmps193 ?_
 cases h:decide ((48:Int)<=(c.toNat:Int))
 all_goals
  exact ar
theorem C3 (c:UInt8):GF Tryz.prog 185 [CE c] [] (.v (.bool (dK c))) []:=by
 unfold dK;have hs:=wg c;have hd:=we c;generalize small c=b1 at *;generalize dP c=b2 at *;refine ah Tryz.func185 Tryz.ntmps185 ?_;refine gm [] (hs) ?_
 cases b1 with
 | true =>
  exact ar
 | false =>
  cases h1:decide ((65:Int)<=(c.toNat:Int)) with
  | true =>
   cases h2:decide ((c.toNat:Int)<=90) with
   | true =>
    exact ar
   | false =>
    refine ab ?_;refine gm [] (hd) ?_
    cases b2 with
    | true =>
     exact ar
    | false =>
     exact ar
  | false =>
   refine ab ?_;refine gm [] (hd) ?_
   cases b2 with
   | true =>
    exact ar
   | false =>
    exact ar
theorem ot (s t:ae) (a:Nat) (hs:s.length<=1152921504606846976) (ht:t.length<=1152921504606846976) (ha:a<=1152921504606846976) :
  GF Tryz.prog 192 [.v (sv s),.v (ii (a:Nat)),.v (sv t)] [] (.v (.bool (bo s a t))) []:=by
 by_cases h:a+t.length<=s.length
 ·have h':decide (((a+t.length:Nat):Int)<=(s.length:Int))=true:=by simpa using by omega
  refine ah Tryz.func192 Tryz.ntmps192 ?_;refine bI ?_;unfold bo;rw [decide_eq_true h];exact ⟨rfl,rfl⟩
 ·have h':decide (((a+t.length:Nat):Int)<=(s.length:Int))=false:=by simpa using by omega
  refine ah Tryz.func192 Tryz.ntmps192 ?_;refine bI ?_;unfold bo;rw [decide_eq_false h];exact ⟨rfl,rfl⟩
theorem MF (s:ae) (a:Nat) (hs:s.length<=1099511627776) (ha:a<=s.length) :
  GF Tryz.prog 153 [.v (sv s),.v (ii (a:Nat))] [] (.tup [.v (ii ((skip s (s.length+1) a).1:Nat)),.v (ii (skip s (s.length+1) a).2)]) []:=by
 generalize hR:skip s (s.length+1) a=R;refine ah Tryz.func153 Tryz.ntmps153 ?_;refine GW.loop (fun x:Nat × Nat=>x.1) (fun x fr Γ=>fr=[.v (sv s),.v (ii (x.2:Nat)),.any,.any,.any,.any,.any,.any,.any,.any,.any,.any,.any,.any,.any,.any,.any,.any,.any,.any,.any,.any,.any,.any,.any,.any,.any,.any,.any,.any,.any,.any,.any,.any,.any,.any,.any,.any,.any,.any,.any,.any,.any,.any,.any,.any,.any,.any,.any,.any,.any,.any,.any,.any,.any,.any,.any,.any,.any,.any,.any,.any,.any]/\Γ=[]/\x.2<=s.length/\s.length < x.1+x.2/\skip s x.1 x.2=R) (s.length+1,a) ?_ ?_
 ·exact ⟨_,_,Wk.av aj,rfl,rfl,ha,by simp;omega,hR⟩
 ·rintro ⟨f,a⟩ _ _ ⟨rfl,rfl,ha,hf,h⟩;simp only at ha hf h
  cases f with
  | zero=>omega
  | succ f =>
  rw [skip] at h
  cases hc:s[a]? with
  | none =>
   rw [hc] at h;simp only at h;subst h;have lk:s.length<=a:=List.getElem?_eq_none_iff.1 hc
   have hd:decide ((a:Int) < (s.length:Int))=false:=by simpa using lk
   refine ab ?_;refine aS ?_;exact l7
  | some c =>
   rw [hc] at h;simp only at h;have ao:a < s.length:=(List.getElem?_eq_some_iff.1 hc).1
   have hd:decide ((a:Int) < (s.length:Int))=true:=by simpa using ao
   have hb:dA c=(((c.toNat:Int)==32) || ((c.toNat:Int)==9) || ((c.toNat:Int)==10) || ((c.toNat:Int)==13)):=rfl
   by_cases mH:dA c=true
   ·rw [if_pos mH] at h;rw [hb] at mH;have EO:((c.toNat:Int)==32)=true\/(((c.toNat:Int)==32)=false/\((c.toNat:Int)==9)=true)\/(((c.toNat:Int)==32)=false/\((c.toNat:Int)==9)=false/\((c.toNat:Int)==10)=true) \/
      (((c.toNat:Int)==32)=false/\((c.toNat:Int)==9)=false/\((c.toNat:Int)==10)=false/\((c.toNat:Int)==13)=true):=by
     generalize ((c.toNat:Int)==32)=b1 at *;generalize ((c.toNat:Int)==9)=b2 at *;generalize ((c.toNat:Int)==10)=b3 at *;generalize ((c.toNat:Int)==13)=b4 at *;clear hb
     revert mH;cases b1 <;> cases b2 <;> cases b3 <;> cases b4 <;> simp
    clear hb mH
    rcases EO with k1 | ⟨k1,k2⟩ | ⟨k1,k2,k3⟩ | ⟨k1,k2,k3,k4⟩
    all_goals
     refine ab ?_;refine aS ?_;exact ⟨(f,a+1),⟨_,_,Wk.av aj,rfl,rfl,by simp only;omega,by simp only;omega,h⟩,by simp⟩
   ·rw [if_neg mH] at h;rw [hb] at mH
    have EO:((c.toNat:Int)==32)=false/\((c.toNat:Int)==9)=false/\((c.toNat:Int)==10)=false/\((c.toNat:Int)==13)=false:=by
     generalize ((c.toNat:Int)==32)=b1 at *;generalize ((c.toNat:Int)==9)=b2 at *;generalize ((c.toNat:Int)==10)=b3 at *;generalize ((c.toNat:Int)==13)=b4 at *;clear hb
     revert mH;cases b1 <;> cases b2 <;> cases b3 <;> cases b4 <;> simp
    clear hb mH;obtain ⟨k1,k2,k3,k4⟩:=EO
    by_cases og:bo s a [47,42]=true
    ·rw [if_pos og] at h;have mH:=jk og;have mH:a+2<=s.length:=mH
     have ra:(!bo s a [47,42])=false:=by rw [og];rfl
     try simp only at h
     generalize he:eK s s.length (a+2)=e at h;refine ab ?_;refine U [] (ot s [47,42] a (by omega) (by decide) (by omega)) ?_;have Lu:=qJ s s.length (a+2) (by omega) (by omega);have Hy:=rO s s.length (a+2) (by omega);rw [he] at Lu Hy;refine GW.P2 (fun fr Γ=>fr=[.v (sv s),.v (ii (a:Nat)),.any,.any,.any,.any,.v (ii (e:Nat)),.any,.any,.any,.any,.any,.any,.any,.any,.any,.any,.any,.any,.any,.any,.any,.any,.any,.any,.any,.any,.any,.any,.any,.any,.any,.any,.any,.any,.any,.any,.any,.any,.any,.any,.any,.any,.any,.any,.any,.any,.any,.any,.any,.any,.any,.any,.any,.any,.any,.any,.any,.any,.any,.any,.any,.any]/\Γ=[]) ?_ ?_
     ·refine GW.loop (fun x:Nat × Nat=>x.1) (fun x fr Γ=>fr=[.v (sv s),.v (ii (a:Nat)),.any,.any,.any,.any,.v (ii (x.2:Nat)),.any,.any,.any,.any,.any,.any,.any,.any,.any,.any,.any,.any,.any,.any,.any,.any,.any,.any,.any,.any,.any,.any,.any,.any,.any,.any,.any,.any,.any,.any,.any,.any,.any,.any,.any,.any,.any,.any,.any,.any,.any,.any,.any,.any,.any,.any,.any,.any,.any,.any,.any,.any,.any,.any,.any,.any]/\Γ=[]/\x.2<=s.length/\eK s x.1 x.2=e) (s.length,a+2) ?_ ?_
      ·exact ⟨_,_,Wk.av aj,rfl,rfl,by simp only;omega,he⟩
      ·rintro ⟨g,e'⟩ _ _ ⟨rfl,rfl,hle,sE⟩;simp only at hle sE
       by_cases hstop:e' < s.length
       ·have dq:decide ((e':Int) < (s.length:Int))=true:=by simpa using hstop
        cases oP:bo s e' [42,47] with
        | true =>
         have WK:(!bo s e' [42,47])=false:=by rw [oP];rfl
         have wQ:e'=e:=by
          cases g with
          | zero=>exact sE
          | succ g=>rw [eK,if_neg (by rw [oP];simp)] at sE;exact sE
         subst wQ;refine ab ?_;refine U [] (ot s [42,47] e' (by omega) (by decide) (by omega)) ?_;refine aS ?_;exact ⟨_,_,Wk.av aj,rfl,rfl⟩
        | false =>
         have WK:(!bo s e' [42,47])=true:=by rw [oP];rfl
         cases g with
         | zero=>exact absurd ⟨by rw [<-sE];exact hstop,by rw [<-sE];exact oP⟩ Lu
         | succ g =>
          rw [eK,if_pos ⟨hstop,oP⟩] at sE;refine ab ?_;refine U [] (ot s [42,47] e' (by omega) (by decide) (by omega)) ?_;exact ⟨(g,e'+1),⟨_,_,Wk.av aj,rfl,rfl,hstop,sE⟩,by simp⟩
       ·have dq:decide ((e':Int) < (s.length:Int))=false:=by simp;omega
        have wQ:e'=e:=by
         cases g with
         | zero=>exact sE
         | succ g=>rw [eK,if_neg (fun hh=>hstop hh.1)] at sE;exact sE
        subst wQ;refine ab ?_;refine aS ?_;exact ⟨_,_,Wk.av aj,rfl,rfl⟩
     ·rintro _ _ ⟨rfl,rfl⟩
      by_cases hle:s.length<=e
      ·rw [if_pos hle] at h
       have W5:decide ((s.length:Int)<=(e:Int))=true:=by simpa using hle
       subst h;exact l7
      ·rw [if_neg hle] at h
       have W5:decide ((s.length:Int)<=(e:Int))=false:=by simp;omega
       have oP:bo s e [42,47]=true:=by
        cases oP:bo s e [42,47] with
        | true=>rfl
        | false=>exact absurd ⟨by omega,oP⟩ Lu
       have oP:=jk oP;have oP:e+2<=s.length:=oP;refine ab ?_;refine aS ?_;exact ⟨(f,e+2),⟨_,_,Wk.av aj,rfl,rfl,oP,by simp only;omega,h⟩,by simp⟩
    ·rw [if_neg og] at h
     have ra:(!bo s a [47,42])=true:=by simpa using og
     subst h;refine ab ?_;refine U [] (ot s [47,42] a (by omega) (by decide) (by omega)) ?_;exact ew
end Go.Xg
namespace Go.Xg
open Go.RowKit Go.Xw Go.Proofs
open Go.Xp (Tok Nd T aZ one levels)
open Go.Sp
attribute [local irreducible] GW GL GO YG GC GA aQ aR
theorem wh:GF Tryz.prog 150 [] [] (strs words) []:=by
 refine ah Tryz.func150 Tryz.ntmps150 ?_;refine bC ?_;exact ar
theorem Jq:GF Tryz.prog 195 [] [] (strs bD) []:=by
 refine ah Tryz.func195 Tryz.ntmps195 ?_;refine bC ?_;exact ar
theorem L1 (s:ae) (hs:s.length<=1099511627776):GF Tryz.prog 149 [.v (sv s)] [] (.v (.bool (word s))) []:=by
 refine ah Tryz.func149 Tryz.ntmps149 ?_;refine GW.loop (fun a:Nat=>s.length - a) (fun a fr Γ=>fr=[.v (sv s),.any,.any,.v (ii (a:Nat)),.any,.any,.any,.any,.any,.any,.any,.any,.any,.any,.any,.any,.any,.any,.any,.any,.any,.any]/\Γ=[]/\a<=s.length/\(s.take a).all dK=true) 0 ?_ ?_
 ·exact ⟨_,_,Wk.av aj,rfl,rfl,Nat.zero_le _,rfl⟩
 ·rintro a _ _ ⟨rfl,rfl,ha,aK⟩
  cases hc:s[a]? with
  | some c =>
   have ao:a < s.length:=(List.getElem?_eq_some_iff.1 hc).1
   have hd:decide ((a:Int) < (s.length:Int))=true:=by simpa using ao
   have bm:(s.take (a+1)).all dK=((s.take a).all dK&&dK c):=by
    rw [take_add_one,hc,List.all_append];simp
   have hp:=C3 c
   cases hn:dK c with
   | true =>
    rw [hn] at hp;refine ab ?_;refine U [] (hp) ?_;exact ⟨a+1,⟨_,_,Wk.av aj,rfl,rfl,ao,by rw [bm,aK,hn];rfl⟩,by omega⟩
   | false =>
    rw [hn] at hp;refine ab ?_;refine U [] (hp) ?_;refine bI ?_;refine ⟨?_,rfl⟩
    have hw:word s=false:=by
     have:s.all dK=false:=by
      rw [List.all_eq_false];exact ⟨c,mem_of_getElem? hc,by rw [hn];decide⟩
     unfold word;rw [this];rfl
    rw [hw];rfl
  | none =>
   have lk:s.length<=a:=List.getElem?_eq_none_iff.1 hc
   have hd:decide ((a:Int) < (s.length:Int))=false:=by simpa using lk
   have aK:s.all dK=true:=by rw [take_of_length_le lk] at aK;exact aK
   cases s with
   | nil =>
    refine ab ?_;refine aS ?_;exact ar
   | cons c r =>
    have hr:(c::r)[0]?=some c:=rfl;refine ab ?_;refine aS ?_;refine ab ?_;refine U [] (wg c) ?_;refine bI ?_;refine ⟨?_,rfl⟩;unfold word;rw [aK];rfl
theorem dT (s:ae) (hs:s.length<=1099511627776):GF Tryz.prog 126 [.v (sv s)] [] (.v (.bool (be s))) []:=by
 have hw:=L1 s hs;unfold be;generalize word s=b at *;refine ah Tryz.func126 Tryz.ntmps126 ?_;refine gm [] (hw) ?_
 cases b with
 | false =>
  exact ar
 | true =>
  by_cases nQ:s.length<=12
  ·have WD:decide ((s.length:Int)<=12)=true:=by simpa using by omega
   refine ab ?_;refine U [] (wh) ?_;refine U [] (gE words s (by decide)) ?_;refine bI ?_;rw [decide_eq_true nQ];exact ⟨rfl,rfl⟩
  ·have WD:decide ((s.length:Int)<=12)=false:=by simpa using by omega
   refine ab ?_;refine bI ?_;rw [decide_eq_false nQ];exact ⟨rfl,rfl⟩
end Go.Xg
namespace Go.Xg
open Go.RowKit Go.Xw Go.Proofs
open Go.Xp (Tok Nd T aZ one levels)
open Go.Sp
attribute [local irreducible] GW GL GO YG GC GA aQ aR
theorem Gs (s:ae) (a:Nat) (hs:s.length<=1099511627776) (ha:a<=s.length) :
  GF Tryz.prog 194 [.v (sv s),.v (ii (a:Nat))] [] (.tup [.agg (c6 ⟨1,(number s (s.length+1) 0 a).1,[],a⟩),.v (ii ((number s (s.length+1) 0 a).2:Nat))]) []:=by
 generalize hR:number s (s.length+1) 0 a=R;generalize ha0:a=a0 at *;refine ah Tryz.func194 Tryz.ntmps194 ?_;refine GW.loop (fun x:Nat × Int × Nat=>x.1) (fun x fr Γ=>fr=[.v (sv s),.v (ii (x.2.2:Nat)),.any,.any,.loc 0 0,.any,.loc 1 0,.any,.any,.any,.any,.any,.any,.any,.any,.any,.any,.any,.any,.any,.any,.any,.any,.any,.any,.any,.any,.any,.any,.any,.any,.any,.any,.any,.any,.any]/\Γ=[.box 162 [.v (ii 0),.v (ii 0),.v (sv []),.v (ii 0)],.box 162 (c6 ⟨1,x.2.1,[],a0⟩)]/\x.2.2<=s.length/\s.length < x.1+x.2.2/\number s x.1 x.2.1 x.2.2=R/\0<=x.2.1/\x.2.1<=21474836479) (s.length+1,0,a0) ?_ ?_
 ·exact ⟨_,_,Wk.av aj,rfl,rfl,by simp only;omega,by simp only;omega,by rw [<-hR],by simp,by simp⟩
 ·rintro ⟨f,n,a⟩ _ _ ⟨rfl,rfl,ha,hf,h,CR,EA⟩;simp only at ha hf h CR EA
  cases f with
  | zero=>omega
  | succ f =>
  rw [number] at h
  cases hc:s[a]? with
  | none =>
   rw [hc] at h;simp only at h;subst h;have lk:s.length<=a:=List.getElem?_eq_none_iff.1 hc
   have hd:decide ((a:Int) < (s.length:Int))=false:=by simpa using lk
   refine ab ?_;refine aS ?_;refine ab ?_;refine jL ?_;exact ⟨rfl,rfl⟩
  | some c =>
   rw [hc] at h;simp only at h;have ao:a < s.length:=(List.getElem?_eq_some_iff.1 hc).1
   have hd:decide ((a:Int) < (s.length:Int))=true:=by simpa using ao
   have mb:=we c
   cases hdc:dP c with
   | false =>
    rw [hdc] at mb;rw [if_neg (by rw [hdc];simp)] at h;subst h;refine ab ?_;refine U [] (mb) ?_;refine aS ?_;refine ab ?_;refine jL ?_;exact ⟨rfl,rfl⟩
   | true =>
    rw [hdc] at mb;rw [if_pos hdc] at h
    have xE:(48:Int)<=(c.toNat:Int)/\(c.toNat:Int)<=57:=by
     simp only [dP,Bool.and_eq_true,decide_eq_true_eq] at hdc;exact hdc
    by_cases hn:n<=2147483647
    ·rw [if_pos hn] at h
     have AQ:decide (n<=2147483647)=true:=by simpa using hn
     refine ab ?_;refine U [] (mb) ?_;refine GW.draw (.q 0 (.q 1 (.q 2 (.q 3 (.q 4 (.q 5 (.q 6 (.q 7 (.q 8 (.q 9 (.a 10 .nil))))))))))) (by kernel_rfl) (by kernel_rfl) ?_;refine ai ?_;refine ab ?_;exact ⟨(f,n * 10+((c.toNat:Int) - 48),a+1),⟨_,_,Wk.av aj,rfl,rfl,ao,by simp only;omega,h,by simp only;omega,by simp only;omega⟩,by simp⟩
    ·rw [if_neg hn] at h
     have AQ:decide (n<=2147483647)=false:=by simpa using hn
     refine ab ?_;refine U [] (mb) ?_;exact ⟨(f,n,a+1),⟨_,_,Wk.av aj,rfl,rfl,ao,by simp only;omega,h,CR,EA⟩,by simp⟩
end Go.Xg
namespace Go.Xg
open Go.RowKit Go.Xw Go.Proofs
open Go.Xp (Tok Nd T aZ one levels)
open Go.Sp
attribute [local irreducible] GW GL GO YG GC GA aQ aR
theorem KV {xs:List ae} {p:ae->Bool} {k:Nat} {x:ae} (h:(xs.take k).find? p=none) (hx:xs[k]?=some x) (hp:p x=true):xs.find? p=some x:=by
 have ao:=(List.getElem?_eq_some_iff.1 hx).1
 have:xs=xs.take k++x::xs.drop (k+1):=by
  have h1:=List.take_append_drop k xs;rw [List.drop_eq_getElem_cons ao] at h1;rw [(List.getElem?_eq_some_iff.1 hx).2] at h1;exact h1.symm
 rw [this,List.find?_append,h];simp [List.find?_cons,hp]
theorem KU {xs:List ae} {p:ae->Bool} {k:Nat} {x:ae} (h:(xs.take k).find? p=none) (hx:xs[k]?=some x) (hp:p x=false):(xs.take (k+1)).find? p=none:=by
 rw [take_add_one,hx,List.find?_append,h];simp [List.find?_cons,hp]
theorem GM:∀ x∈bD,x.length<=1152921504606846976:=by decide
theorem Oa (s:ae) (a:Nat) (c:UInt8) (hs:s.length<=1099511627776) (hc:s[a]?=some c) :
  GF Tryz.prog 154 [.v (sv s),.v (ii (a:Nat))] [] (.tup [.agg (c6 (iI s a c).1),.v (ii ((iI s a c).2:Nat))]) []:=by
 have ao:a < s.length:=(List.getElem?_eq_some_iff.1 hc).1;have mb:=we c;have iO:=wg c;unfold iI
 cases hdc:dP c with
 | true =>
  rw [hdc] at mb;rw [if_pos rfl];refine ah Tryz.func154 Tryz.ntmps154 ?_;refine U [] (mb) ?_;refine U [] (Gs s a hs (by omega)) ?_;refine jL ?_;exact ⟨rfl,rfl⟩
 | false =>
  rw [hdc] at mb;rw [if_neg (by decide)]
  cases hsc:small c with
  | true =>
   rw [hsc] at iO;rw [if_pos rfl];have V0:=oX s dK (s.length+1) a (by omega) (by omega);have V7:(s.take (et s a)).drop a=eV s a:=rfl;have SN:run s dK (s.length+1) a=et s a:=rfl;rw [SN] at V0;generalize he:et s a=e at *;generalize hw:eV s a=w at *;have hw:=V7;have he:=SN;refine ah Tryz.func154 Tryz.ntmps154 ?_;refine U [] (mb) ?_;refine U [] (iO) ?_;refine GW.P2 (fun fr Γ=>fr=[.v (sv s),.v (ii (a:Nat)),.any,.any,.loc 0 0,.any,.v (ii (e:Nat)),.any,.any,.any,.any,.any,.any,.any,.any,.any,.any,.any,.any,.any,.any,.any,.any,.any,.any,.any,.any,.any,.any,.any,.any,.any,.any,.any,.any,.any,.any,.any,.any,.any,.any,.any,.any,.any,.any,.any,.any,.any,.any,.any,.any,.any,.any,.any,.any,.any,.any,.any,.any,.any,.any,.any,.any,.any,.any,.any,.any,.any,.any]/\Γ=[.box 162 [.v (ii 0),.v (ii 0),.v (sv []),.v (ii 0)]]) ?_ ?_
   ·refine GW.loop (fun x:Nat × Nat=>x.1) (fun x fr Γ=>fr=[.v (sv s),.v (ii (a:Nat)),.any,.any,.loc 0 0,.any,.v (ii (x.2:Nat)),.any,.any,.any,.any,.any,.any,.any,.any,.any,.any,.any,.any,.any,.any,.any,.any,.any,.any,.any,.any,.any,.any,.any,.any,.any,.any,.any,.any,.any,.any,.any,.any,.any,.any,.any,.any,.any,.any,.any,.any,.any,.any,.any,.any,.any,.any,.any,.any,.any,.any,.any,.any,.any,.any,.any,.any,.any,.any,.any,.any,.any,.any]/\Γ=[.box 162 [.v (ii 0),.v (ii 0),.v (sv []),.v (ii 0)]]/\x.2<=s.length/\s.length < x.1+x.2/\run s dK x.1 x.2=e) (s.length+1,a) ?_ ?_
    ·exact ⟨_,_,Wk.av aj,rfl,rfl,by simp only;omega,by simp only;omega,he⟩
    ·rintro ⟨f,b⟩ _ _ ⟨rfl,rfl,hb,hf,h⟩;simp only at hb hf h
     cases f with
     | zero=>omega
     | succ f =>
     rw [run] at h
     cases y5:s[b]? with
     | none =>
      rw [y5] at h;simp only at h;subst h;have lk:s.length<=b:=List.getElem?_eq_none_iff.1 y5
      have hd:decide ((b:Int) < (s.length:Int))=false:=by simpa using lk
      refine ab ?_;refine aS ?_;exact ⟨_,_,Wk.av aj,rfl,rfl⟩
     | some cb =>
      rw [y5] at h;simp only at h;have pA:b < s.length:=(List.getElem?_eq_some_iff.1 y5).1
      have hd:decide ((b:Int) < (s.length:Int))=true:=by simpa using pA
      have hp:=C3 cb
      cases hn:dK cb with
      | true =>
       rw [hn] at hp;rw [if_pos hn] at h;refine ab ?_;refine U [] (hp) ?_;exact ⟨(f,b+1),⟨_,_,Wk.av aj,rfl,rfl,pA,by simp only;omega,h⟩,by simp⟩
      | false =>
       rw [hn] at hp;rw [if_neg (by rw [hn];decide)] at h;subst h;refine ab ?_;refine U [] (hp) ?_;refine aS ?_;exact ⟨_,_,Wk.av aj,rfl,rfl⟩
   ·rintro _ _ ⟨rfl,rfl⟩;obtain ⟨_,h1,h2⟩:=V0;refine ab ?_;rw [hw];have Je:=gE words w (by decide)
    cases hcw:words.contains w with
    | true =>
     rw [hcw] at Je;refine GW.draw (.q 1 (.q 2 (.a 0 (.a 3 .nil)))) (by kernel_rfl) (by kernel_rfl) ?_;refine ai ?_;refine ax [] (wh) ?_;refine ax [] (Je) ?_;refine ab ?_;refine jL ?_;rw [if_pos rfl];exact ⟨rfl,rfl⟩
    | false =>
     rw [hcw] at Je;refine GW.draw (.q 1 (.q 2 (.a 0 (.a 3 .nil)))) (by kernel_rfl) (by kernel_rfl) ?_;refine ai ?_;refine ax [] (wh) ?_;refine ax [] (Je) ?_;refine ab ?_;refine jL ?_;rw [if_neg (by decide)];exact ⟨rfl,rfl⟩
  | false =>
   rw [hsc] at iO;rw [if_neg (by decide)];refine ah Tryz.func154 Tryz.ntmps154 ?_;refine U [] (mb) ?_;refine U [] (iO) ?_;refine U [] (Jq) ?_;refine GW.range (bD.map fun s=>[GV.v (sv s)]).length (fun k fr Γ=>fr=[.v (sv s),.v (ii (a:Nat)),.any,.any,.loc 0 0,.any,.any,.any,.any,.any,.any,.any,.any,.any,.any,.any,.any,.any,.any,.any,.any,.any,.any,.any,.any,.any,.any,.any,.any,.any,.any,.any,.any,.any,.any,.any,.any,.any,.any,.any,.any,.any,.any,.any,.any,.any,.any,.any,.any,strs bD,.v (ii ((bD.map fun s=>[GV.v (sv s)]).length:Int)),.v (ii (k:Nat)),.any,.any,.any,.any,.any,.any,.any,.any,.any,.any,.any,.any,.any,.any,.any,.any,.any]/\Γ=[.box 162 [.v (ii 0),.v (ii 0),.v (sv []),.v (ii 0)]]/\(bD.take k).find? (bo s a)=none) ?_ (by decide) ?_ ?_ ?_
   ·exact ⟨_,_,Wk.av aj,rfl,rfl,rfl⟩
   ·rintro k _ _ ⟨rfl,rfl,_⟩;exact ⟨rfl,rfl,rfl⟩
   ·rintro k _ _ hk ⟨rfl,rfl,hf⟩
    have hk:k < bD.length:=by simpa using hk
    have hx:bD[k]?=some bD[k]:=by simp [hk]
    have hr:(bD.map fun s=>[GV.v (sv s)])[k]?=some [.v (sv bD[k])]:=by simp [hk]
    have zg:=GM _ (getElem_mem hk);generalize bD[k]=x at *;have og:=ot s x a (by omega) zg (by omega)
    cases hb:bo s a x with
    | true =>
     rw [hb] at og;have SP:=KV hf hx hb;refine ab ?_;refine U [] (og) ?_;refine jL ?_;rw [SP];exact ⟨rfl,rfl⟩
    | false =>
     rw [hb] at og;refine ab ?_;refine U [] (og) ?_;exact ⟨rfl,rfl,_,_,Wk.av aj,rfl,rfl,KU hf hx hb⟩
   ·rintro _ _ ⟨rfl,rfl,hf⟩
    have hf:bD.find? (bo s a)=none:=by
     rw [take_of_length_le (by simp)] at hf;exact hf
    refine ab ?_;refine jL ?_;rw [hf];exact ⟨rfl,rfl⟩
theorem O3 {s:ae} {a:Nat} {c:UInt8} (hc:s[a]?=some c):a<=(iI s a c).2/\(iI s a c).2<=s.length:=by
 have ao:a < s.length:=(List.getElem?_eq_some_iff.1 hc).1;unfold iI;split
 ·exact (wA s (s.length+1) 0 a (by omega) (by omega)).2
 ·split
  ·exact (oX s dK (s.length+1) a (by omega) (by omega)).2
  ·split
   ·rename_i x hx;have:=jk (List.find?_some hx);exact ⟨Nat.le_add_right _ _,this⟩
   ·exact ⟨Nat.le_refl _,by omega⟩
theorem L5 (s:ae) (l:List Tok) (hs:s.length<=1000000000000) (h:Go.Sp.iv s=some l) :
  GF Tryz.prog 130 [.v (sv s)] [] (Go.Xg.iv l) []:=by
 rw [Go.Sp.iv] at h;have YW:=MF s 0 (by omega) (Nat.zero_le _);have rj:=yE s (s.length+1) 0 (Nat.zero_le _);generalize hS:skip s (s.length+1) 0=R at *;refine ah Tryz.func130 Tryz.ntmps130 ?_;refine ow ?_;refine ab ?_;refine U [] (YW) ?_;refine GW.loop (fun x:Nat × Nat × List Tok=>x.1) (fun x fr Γ=>∃ n rows,fr=[.v (sv s),.any,.any,.vec 0 n,.v (ii (x.2.1:Nat)),.any,.any,.any,.any,.any,.any,.any,.any,.any,.any,.any,.any,.any,.any,.any,.any,.any,.any,.any,.any,.any,.any,.any,.any,.any,.any,.any,.any,.any,.any]/\Γ=[.vec 162 4 0 rows]/\rows.length=n/\rows=x.2.2.map c6/\n+x.1<=s.length+2/\x.2.1<=s.length/\pV s x.1 x.2.1 x.2.2=some l) (s.length+2,R.1,[]) ?_ ?_
 ·exact ⟨_,_,Wk.av aj,0,[],rfl,rfl,rfl,rfl,by simp,rj.2,h⟩
 ·rintro ⟨f,a,acc⟩ _ _ ⟨n,rows,rfl,rfl,hn,bj,rh,ha,h⟩;simp only at bj rh ha h
  cases f with
  | zero=>simp [pV] at h
  | succ f =>
  rw [pV] at h
  cases hc:s[a]? with
  | none =>
   rw [hc] at h;simp only at h;cases h;have lk:s.length<=a:=List.getElem?_eq_none_iff.1 hc
   have hd:decide ((a:Int) < (s.length:Int))=false:=by simpa using lk
   subst bj;refine ab ?_;refine aS ?_;refine ab ?_;refine GW.wk (Wk.hY (t:=2) rfl rfl rfl hn) ?_;exact al
  | some c =>
   rw [hc] at h;simp only at h;have ao:a < s.length:=(List.getElem?_eq_some_iff.1 hc).1
   have hd:decide ((a:Int) < (s.length:Int))=true:=by simpa using ao
   have oT:=O3 hc;have eH:=Oa s a c (by omega) hc;generalize iI s a c=tk at *;have Xj:=MF s tk.2 (by omega) oT.2;have Z5:=yE s (s.length+1) tk.2 oT.2;generalize skip s (s.length+1) tk.2=R2 at *;refine ab ?_;refine U [] (eH) ?_;refine ea ?_;refine ab ?_;refine U [] (Xj) ?_;exact ⟨(f,R2.1,acc++[tk.1]),⟨_,_,(Wk.cut (n:=1) (Nat.le_of_ble_eq_true rfl) rfl).trans (Wk.av aj),_,_,rfl,rfl,by simp [hn],by rw [List.map_append,bj];rfl,by simp only;omega,by simp only;omega,h⟩,by simp⟩
end Go.Xg
namespace Go.Xg
open Go.RowKit Go.Xw Go.Proofs
open Go.Xp (Tok Nd T aZ one levels)
open Go.Sp
attribute [local irreducible] GW GL GO YG GC GA aQ aR
structure DQ (f:Nat):Prop where
 expr:∀ d p t q,p.ok->d+f<=4611686018427387904->mE f (.expr d) p=some (t,q)->GF Tryz.prog 199 [.loc 0 0,.v (ii (d:Nat))] [bR p] (.agg (cT t)) [bR q]
 level:∀ k d p t q,p.ok->k<=9->d+f<=4611686018427387904->mE f (.level k d) p=some (t,q)->GF Tryz.prog 220 [.loc 0 0,.v (ii (k:Nat)),.v (ii (d:Nat))] [bR p] (.agg (cT t)) [bR q]
 operand:∀ d p t q,p.ok->d+f<=4611686018427387904->mE f (.operand d) p=some (t,q)->GF Tryz.prog 234 [.loc 0 0,.v (ii (d:Nat))] [bR p] (.agg (cT t)) [bR q]
 named:∀ a s d p t q,p.ok->d+f<=4611686018427387904->mE f (.named a s d) p=some (t,q)->GF Tryz.prog 244 [.loc 0 0,.v (ii a),.v (sv s),.v (ii (d:Nat))] [bR p] (.agg (cT t)) [bR q]
 list:∀ d p l q,p.ok->d+f<=4611686018427387904->mL f d p=some (l,q)->GF Tryz.prog 249 [.loc 0 0,.v (ii (d:Nat))] [bR p] (.sl 6 (aH l)) [bR q]
theorem Sd {f:Nat} (C:DQ f) (d:Nat) (p:RS) (t:T) (q:RS) (hp:p.ok) (hd:d+(f+1)<=4611686018427387904) (h:mE (f+1) (.expr d) p=some (t,q)) :
  GF Tryz.prog 199 [.loc 0 0,.v (ii (d:Nat))] [bR p] (.agg (cT t)) [bR q]:=by
 rw [mE] at h;refine ah Tryz.func199 Tryz.ntmps199 ?_;refine U [0] (tX p d hp) ?_;refine U [0] (C.level 0 d _ t q ((nO hp d).ok hp) (by omega) (by omega) h) ?_;exact dm
theorem HV {k:Nat} (hk:k < 9):(levels.map fun l=>[strs l])[k]?=some [strs (levels.getD k [])]:=by
 have:k < levels.length:=hk;rw [getElem?_map,getElem?_eq_getElem this,List.getD_eq_getElem?_getD,getElem?_eq_getElem this];rfl
theorem B4:∀ k,k < 9->(levels.getD k []).length<=1099511627776:=by decide
abbrev zT:List GV:=[.v (ii 0),.v (ii 0),.v (ii 0),.v (sv []),.v (.slice none 0 0),.v (.slice none 0 0)]
theorem Q5 {f:Nat} (C:∀ f',f'<=f->DQ f') (k d:Nat) (p:RS) (t:T) (q:RS) (hp:p.ok) (hk:k<=9) (hd:d+(f+1)<=4611686018427387904) (h:mE (f+1) (.level k d) p=some (t,q)) :
  GF Tryz.prog 220 [.loc 0 0,.v (ii (k:Nat)),.v (ii (d:Nat))] [bR p] (.agg (cT t)) [bR q]:=by
 rw [mE] at h
 by_cases AN:k=9
 ·subst AN;rw [if_pos rfl] at h;refine ah Tryz.func220 Tryz.ntmps220 ?_;refine U [] (jv) ?_;refine U [0] ((C f (Nat.le_refl _)).operand (d+1) p t q hp (by omega) h) ?_;exact dm
 ·rw [if_neg AN] at h
  have W2:((k:Int)==9)=false:=by simp;omega
  cases he:mE f (.level (k+1) d) p with
  | none=>rw [he] at h;cases h
  | some r =>
   obtain ⟨out,p1⟩:=r;rw [he] at h;simp only at h;have ik:=((tZ f).1 _ _ _ _ hp he).ok hp;refine ah Tryz.func220 Tryz.ntmps220 ?_;refine U [] (jv) ?_;refine U [0] ((C f (Nat.le_refl _)).level (k+1) d p out p1 hp (by omega) (by omega) he) ?_;refine GW.loop (fun x:Nat × T × RS=>x.1) (fun x fr Γ=>fr=[.loc 0 0,.v (ii (k:Nat)),.v (ii (d:Nat)),.any,.any,.any,.loc 1 0,.loc 2 0,.any,.any,.any,.any,.any,.any,.any,.any,.any,.any,.any,.any,.any,.any,.any,.any,.any,.any,.any,.any,.any,.any,.any,.any,.any,.any,.any,.any,.any,.any,.any,.any,.any,.any,.any,.any,.any,.any,.any,.any,.any,.any,.any,.any,.any,.any,.any,.any,.any,.any,.any,.any,.any,.any,.any,.any,.any,.any]/\Γ=[bR x.2.2,.box 56 zT,.box 56 (cT x.2.1)]/\x.2.2.ok/\x.1<=f/\mE x.1 (.loop k d x.2.1) x.2.2=some (t,q)) (f,out,p1) ?_ ?_
   ·exact ⟨_,_,Wk.av aj,rfl,rfl,ik,Nat.le_refl _,h⟩
   ·rintro ⟨g,out,p⟩ _ _ ⟨rfl,rfl,hp,Ly,h⟩;simp only at hp Ly h
    cases g with
    | zero=>simp [mE] at h
    | succ g =>
    rw [mE] at h
    have hk:k < 9:=by omega
    by_cases hc:p.code=0
    ·have dp:(p.code==0)=true:=by simpa using hc
     have Ex:=HV hk
     by_cases hit:(levels.getD k []).contains (p.sign 0)=true
     ·rw [if_pos ⟨hc,hit⟩] at h
      cases ht:p.l[p.i]? with
      | none=>rw [ht] at h;cases h
      | some tk =>
       rw [ht] at h;simp only at h;have ao:=(List.getElem?_eq_some_iff.1 ht).1;have hr:=j0 ht;have ct:=hp.2
       cases hb:mE g (.level (k+1) d) p.next with
       | none=>rw [hb] at h;cases h
       | some r =>
        obtain ⟨b,p2⟩:=r;rw [hb] at h;simp only at h;have cW:=(dv ao).ok hp;have di:=((tZ g).1 _ _ _ _ cW hb).ok cW;refine ab ?_;refine GW.draw (.q 0 (.q 1 (.q 2 (.q 3 (.q 4 (.q 5 (.q 7 (.q 10 (.a 6 (.q 8 (.q 9 (.a 11 (.a 12 (.q 13 .nil)))))))))))))) (by kernel_rfl) (by kernel_rfl) ?_;refine ai ?_;refine bz [] (jv) ?_;refine bz [0] (cY p 0 hp (by decide)) ?_;refine bz [] (gE (levels.getD k []) (p.sign 0) (B4 k hk)) ?_;refine ab ?_;refine GW.draw (.q 0 (.q 1 (.q 2 (.q 3 (.q 4 (.q 5 (.q 6 (.q 7 (.q 8 (.q 9 (.a 10 (.a 11 .nil)))))))))))) (by kernel_rfl) (by kernel_rfl) ?_;refine ai ?_;refine ab ?_;refine GW.draw (.q 0 (.q 1 (.q 2 (.q 3 (.q 4 (.q 5 (.q 6 (.q 7 (.q 8 (.a 9 (.a 10 (.a 11 (.a 12 .nil))))))))))))) (by kernel_rfl) (by kernel_rfl) ?_;refine ai ?_;refine ax [0] ((C g (by omega)).level (k+1) d p.next b p2 cW (by omega) (by omega) hb) ?_;refine dk ?_;refine ai ?_;refine wK [] (fT 6 tk.at_ tk.s [out,b] _ nP) ?_;refine FZ ?_;refine ai ?_;refine ab ?_;exact ⟨(g,one 6 tk.at_ tk.s [out,b],p2),⟨_,_,(Wk.cut (n:=3) (Nat.le_of_ble_eq_true rfl) rfl).trans (Wk.av aj),rfl,rfl,di,by omega,h⟩,by simp⟩
     ·have hit:(levels.getD k []).contains (p.sign 0)=false:=by simpa using hit
      rw [if_neg (by rw [hit];simp)] at h
      obtain ⟨rfl,rfl⟩:out=t/\p=q:=by simpa using h
      refine ab ?_;refine GW.draw (.q 0 (.q 1 (.q 2 (.q 3 (.q 4 (.q 5 (.q 7 (.q 10 (.a 6 (.q 8 (.q 9 (.a 11 (.a 12 (.q 13 .nil)))))))))))))) (by kernel_rfl) (by kernel_rfl) ?_;refine ai ?_;refine bz [] (jv) ?_;refine bz [0] (cY p 0 hp (by decide)) ?_;refine bz [] (gE (levels.getD k []) (p.sign 0) (B4 k hk)) ?_;refine ab ?_;refine aS ?_;exact jK
    ·have dp:(p.code==0)=false:=by simpa using hc
     rw [if_neg (fun hh=>hc hh.1)] at h
     obtain ⟨rfl,rfl⟩:out=t/\p=q:=by simpa using h
     refine ab ?_;refine GW.draw (.q 0 (.q 1 (.q 2 (.q 3 (.q 4 (.q 5 (.q 7 (.q 10 (.a 6 (.q 8 (.q 9 (.a 11 (.a 12 (.q 13 .nil)))))))))))))) (by kernel_rfl) (by kernel_rfl) ?_;refine ai ?_;refine ab ?_;refine aS ?_;exact jK
end Go.Xg
namespace Go.Xg
open Go.RowKit Go.Xw Go.Proofs
open Go.Xp (Tok Nd T aZ one levels)
open Go.Sp
attribute [local irreducible] GW GL GO YG GC GA aQ aR
theorem Q9 {f:Nat} (C:DQ f) (a:Int) (s:ae) (d:Nat) (p:RS) (t:T) (q:RS) (hp:p.ok) (hd:d+(f+1)<=4611686018427387904) (h:mE (f+1) (.named a s d) p=some (t,q)) :
  GF Tryz.prog 244 [.loc 0 0,.v (ii a),.v (sv s),.v (ii (d:Nat))] [bR p] (.agg (cT t)) [bR q]:=by
 rw [mE] at h
 by_cases h1:p.sign 0=[91]
 ·rw [if_pos h1] at h
  have cr:(p.sign 0==[91])=true:=by simp [h1]
  have ao:=(fv h1 (by decide)).1;have ct:=hp.2;have cW:=(iY h1 (by decide)).ok hp
  cases he:mE f (.expr (d+1)) p.next with
  | none=>rw [he] at h;cases h
  | some r =>
   obtain ⟨b,p1⟩:=r;rw [he] at h;cases h;have ik:=((tZ f).1 _ _ _ _ cW he).ok cW;refine ah Tryz.func244 Tryz.ntmps244 ?_;refine U [0] (cY p 0 hp (by decide)) ?_;refine U [0] (C.expr (d+1) p.next b p1 cW (by omega) he) ?_;refine U [0] (cX p1 [93] ik (by decide)) ?_;refine bC ?_;refine ab ?_;refine U [] (fT 3 a s [b] _ nP) ?_;exact dm
 ·rw [if_neg h1] at h
  have cr:(p.sign 0==[91])=false:=by simpa using h1
  by_cases h2:p.sign 0=[40]
  ·rw [if_pos h2] at h
   have pY:(p.sign 0==[40])=true:=by simp [h2]
   have ao:=(fv h2 (by decide)).1;have ct:=hp.2;have cW:=(iY h2 (by decide)).ok hp
   cases he:mL f (d+1) p.next with
   | none=>rw [he] at h;cases h
   | some r =>
    obtain ⟨l,p1⟩:=r;rw [he] at h;cases h;refine ah Tryz.func244 Tryz.ntmps244 ?_;refine U [0] (cY p 0 hp (by decide)) ?_;refine U [0] (C.list (d+1) p.next l q cW (by omega) he) ?_;refine U [] (fT 4 a s l _ rfl) ?_;exact dm
  ·rw [if_neg h2] at h
   have pY:(p.sign 0==[40])=false:=by simpa using h2
   cases h;refine ah Tryz.func244 Tryz.ntmps244 ?_;refine U [0] (cY p 0 hp (by decide)) ?_;refine U [] (fT 2 a s [] [] rfl) ?_;exact dm
theorem aL (l:List T):(aH l).length=l.length:=by
 induction l with
 | nil=>rfl
 | cons a l ih=>simp [aH,ih]
theorem tL (l:List T) (a:T):aH (l++[a])=aH l++[cT a]:=by
 induction l with
 | nil=>simp [aH,rX]
 | cons b l ih=>simp [aH,ih]
theorem TA {f:Nat} (C:∀ f',f'<=f->DQ f') (d:Nat) (p:RS) (l:List T) (q:RS) (hp:p.ok) (hd:d+(f+1)<=4611686018427387904) (h:mL (f+1) d p=some (l,q)) :
  GF Tryz.prog 249 [.loc 0 0,.v (ii (d:Nat))] [bR p] (.sl 6 (aH l)) [bR q]:=by
 rw [mL] at h
 by_cases h1:p.sign 0=[41]
 ·rw [if_pos h1] at h
  have cr:(!(p.sign 0==[41]))=false:=by simp [h1]
  cases h;refine ah Tryz.func249 Tryz.ntmps249 ?_;refine ow ?_;refine ab ?_;refine U [0] (cY p 0 hp (by decide)) ?_;refine U [0] (cX p [41] hp (by decide)) ?_;refine GW.wk (Wk.hY (t:=4) rfl rfl rfl rfl) ?_;exact al
 ·rw [if_neg h1] at h
  have cr:(!(p.sign 0==[41]))=true:=by simpa using h1
  cases he:mE f (.expr d) p with
  | none=>rw [he] at h;cases h
  | some r =>
   obtain ⟨a,p1⟩:=r;rw [he] at h;simp only at h;have ik:=((tZ f).1 _ _ _ _ hp he).ok hp;refine ah Tryz.func249 Tryz.ntmps249 ?_;refine ow ?_;refine ab ?_;refine U [0] (cY p 0 hp (by decide)) ?_;refine U [0] ((C f (Nat.le_refl _)).expr d p a p1 hp (by omega) he) ?_;refine ea ?_;refine ab ?_;refine GW.loop (fun x:Nat × List T × RS=>x.1) (fun x fr Γ=>∃ n rows,fr=[.loc 0 0,.v (ii (d:Nat)),.any,.any,.any,.vec 1 n,.any,.any,.any,.any,.any,.any,.any,.any,.any,.any,.any,.any,.any,.any,.any,.any,.any,.any,.any,.any,.any,.any,.any,.any,.any,.any,.any,.any,.any]/\Γ=[bR x.2.2,.vec 56 6 0 rows]/\rows.length=n/\rows=aH x.2.1/\n<=x.2.2.i+1/\x.2.2.ok/\x.1<=f/\sV x.1 d x.2.1 x.2.2=some (l,q)) (f,[a],p1) ?_ ?_
   ·exact ⟨_,_,Wk.av aj,_,_,rfl,rfl,rfl,(by simp only [aH,rX];rfl),(by show 1<=p1.i+1;omega),ik,Nat.le_refl _,h⟩
   ·rintro ⟨g,acc,p⟩ _ _ ⟨n,rows,rfl,rfl,hn,bj,SY,hp,Ly,h⟩;simp only at bj SY hp Ly h
    cases g with
    | zero=>simp [sV] at h
    | succ g =>
    rw [sV] at h;have ct:=hp.2;have CU:=hp.1
    by_cases h2:p.sign 0=[44]
    ·rw [if_pos h2] at h
     have pY:(p.sign 0==[44])=true:=by simp [h2]
     have ao:=(fv h2 (by decide)).1;have cW:=(iY h2 (by decide)).ok hp
     cases hb:mE g (.expr d) p.next with
     | none=>rw [hb] at h;cases h
     | some r =>
      obtain ⟨b,p2⟩:=r;rw [hb] at h;simp only at h;have PU:=(tZ g).1 _ _ _ _ cW hb;have di:=PU.ok cW;have rJ:p.i+1<=p2.i:=PU.2.2.2;refine ab ?_;refine U [0] (cY p 0 hp (by decide)) ?_;refine U [0] ((C g (by omega)).expr d p.next b p2 cW (by omega) hb) ?_;refine ea ?_;refine ab ?_;exact ⟨(g,acc++[b],p2),⟨_,_,Wk.av aj,_,_,rfl,rfl,by simp [hn],by rw [tL,bj],by simp only;omega,di,by simp only;omega,h⟩,by simp⟩
    ·rw [if_neg h2] at h
     have pY:(p.sign 0==[44])=false:=by simpa using h2
     obtain ⟨rfl,rfl⟩:acc=l/\p.aC [41]=q:=by simpa using h
     subst bj;refine ab ?_;refine U [0] (cY p 0 hp (by decide)) ?_;refine aS ?_;refine ab ?_;refine U [0] (cX p [41] hp (by decide)) ?_;refine GW.wk (Wk.hY (t:=4) rfl rfl rfl hn) ?_;exact al
theorem Mr {f:Nat} (C:DQ f) (d:Nat) (p:RS) (t:T) (q:RS) (hp:p.ok) (hd:d+(f+1)<=4611686018427387904) (h:mE (f+1) (.operand d) p=some (t,q)) :
  GF Tryz.prog 234 [.loc 0 0,.v (ii (d:Nat))] [bR p] (.agg (cT t)) [bR q]:=by
 rw [mE] at h;have kq:=(nO hp d).ok hp;have vZ:=tX p d hp;generalize p.deep d=p1 at *
 try simp only at h
 obtain ⟨CU,ct⟩:=id kq
 by_cases hc:p1.code=0
 ·rw [if_pos hc] at h
  have dp:(p1.code != 0)=false:=by simpa using hc
  cases ht:p1.l[p1.i]? with
  | none =>
   rw [ht] at h;cases h;have lk:p1.l.length<=p1.i:=List.getElem?_eq_none_iff.1 ht
   have WY:decide (((p1.l.map c6).length:Int)<=(p1.i:Int))=true:=by simp;omega
   refine ah Tryz.func234 Tryz.ntmps234 ?_;refine U [0] (vZ) ?_;refine GW.draw (.q 0 (.q 1 (.q 2 (.q 3 (.q 4 (.q 5 (.q 6 (.q 7 (.q 8 (.q 9 (.q 10 (.q 11 (.q 12 (.q 13 (.q 14 (.q 15 (.q 16 .nil))))))))))))))))) (by kernel_rfl) (by kernel_rfl) ?_;refine ai ?_;refine ab ?_;refine U [0] (ky p1 kq) ?_;refine U [0] (lK p1 7 p1.place) ?_;refine qF ?_;exact ⟨_,iZ,rfl,rfl⟩
  | some tk =>
   rw [ht] at h;simp only at h;have ao:p1.i < p1.l.length:=(List.getElem?_eq_some_iff.1 ht).1
   have WY:decide (((p1.l.map c6).length:Int)<=(p1.i:Int))=false:=by simp;omega
   have hr:=j0 ht;have cW:=(dv ao).ok kq;refine ah Tryz.func234 Tryz.ntmps234 ?_;refine U [0] (vZ) ?_;refine GW.draw (.q 0 (.q 1 (.q 2 (.q 3 (.q 4 (.q 5 (.q 6 (.q 7 (.q 8 (.q 9 (.q 10 (.q 11 (.q 12 (.q 13 (.q 14 (.q 15 (.q 16 .nil))))))))))))))))) (by kernel_rfl) (by kernel_rfl) ?_;refine ai ?_;refine ab ?_;refine GW.draw (.q 0 (.q 1 (.q 2 (.q 3 (.q 4 (.q 5 (.q 6 (.q 7 (.q 8 (.q 9 (.a 10 (.a 11 .nil)))))))))))) (by kernel_rfl) (by kernel_rfl) ?_;refine ai ?_;refine ab ?_
   by_cases k1:tk.kind=1
   ·rw [if_pos k1] at h;cases h
    have Zc:(tk.kind==1)=true:=by simpa using k1
    refine ab ?_;refine qF ?_;exact ⟨_,iZ,rfl,rfl⟩
   ·rw [if_neg k1] at h
    have Zc:(tk.kind==1)=false:=by simpa using k1
    by_cases k2:tk.kind=2
    ·rw [if_pos k2] at h
     have Ze:(tk.kind==2)=true:=by simpa using k2
     refine ab ?_;refine U [0] (xK p1 kq) ?_;refine U [0] (C.named tk.at_ p1.name.1 d p1.name.2 t q ((qD kq).ok kq) (by omega) h) ?_;exact dm
    ·rw [if_neg k2] at h
     have Ze:(tk.kind==2)=false:=by simpa using k2
     by_cases s3:tk.s=[45]\/tk.s=[33]\/tk.s=[126]
     ·rw [if_pos s3] at h
      cases he:mE f (.operand (d+1)) p1.next with
      | none=>rw [he] at h;cases h
      | some r =>
       obtain ⟨a,p2⟩:=r;rw [he] at h;cases h
       have Zo:(tk.s==[45])=true\/((tk.s==[45])=false/\(tk.s==[33])=true)\/((tk.s==[45])=false/\(tk.s==[33])=false/\(tk.s==[126])=true):=by
        rcases s3 with s3 | s3 | s3
        ·exact .inl (by simp [s3])
        ·exact .inr (.inl (by simp [s3]))
        ·exact .inr (.inr (by simp [s3]))
       refine ab ?_
       rcases Zo with e1 | ⟨e1,e2⟩ | ⟨e1,e2,e3⟩
       all_goals
        refine ab ?_;refine GW.draw (.q 0 (.q 1 (.q 2 (.q 3 (.q 4 (.q 5 (.q 6 (.a 7 (.a 8 (.a 9 (.a 10 .nil))))))))))) (by kernel_rfl) (by kernel_rfl) ?_;refine ai ?_;refine ax [0] (C.operand (d+1) p1.next a q cW (by omega) he) ?_;refine dk ?_;refine ai ?_;refine wK [] (fT 5 tk.at_ tk.s [a] _ nP) ?_;refine FZ ?_;refine ai ?_;exact jK
     ·rw [if_neg s3] at h
      have e1:(tk.s==[45])=false:=by simp at s3;simpa using s3.1
      have e2:(tk.s==[33])=false:=by simp at s3;simpa using s3.2.1
      have e3:(tk.s==[126])=false:=by simp at s3;simpa using s3.2.2
      by_cases s4:tk.s=[40]
      ·rw [if_pos s4] at h
       have Zp:(tk.s==[40])=true:=by simp [s4]
       cases he:mE f (.expr (d+1)) p1.next with
       | none=>rw [he] at h;cases h
       | some r =>
        obtain ⟨a,p2⟩:=r;rw [he] at h;cases h;have di:=((tZ f).1 _ _ _ _ cW he).ok cW;refine ab ?_;refine U [0] (C.expr (d+1) p1.next t p2 cW (by omega) he) ?_;refine U [0] (cX p2 [41] di (by decide)) ?_;exact dm
      ·rw [if_neg s4] at h
       have Zp:(tk.s==[40])=false:=by simpa using s4
       cases h;refine ab ?_;refine U [0] (lK p1 7 tk.at_) ?_;refine qF ?_;exact ⟨_,iZ,rfl,rfl⟩
 ·rw [if_neg hc] at h
  have dp:(p1.code != 0)=true:=by simpa using hc
  cases h;refine ah Tryz.func234 Tryz.ntmps234 ?_;refine U [0] (vZ) ?_;refine GW.draw (.q 0 (.q 1 (.q 2 (.q 3 (.q 4 (.q 5 (.q 6 (.q 7 (.q 8 (.q 9 (.q 10 (.q 11 (.q 12 (.q 13 (.q 14 (.q 15 (.q 16 .nil))))))))))))))))) (by kernel_rfl) (by kernel_rfl) ?_;refine ai ?_;refine ab ?_;refine U [0] (ky p1 kq) ?_;refine U [0] (lK p1 7 p1.place) ?_;refine qF ?_;exact ⟨_,iZ,rfl,rfl⟩
theorem Zn (f:Nat):DQ f:=by
  induction f using Nat.strongRecOn with
  | _ f ih =>
   cases f with
   | zero=>exact ⟨fun d p t q _ _ h=>by simp [mE] at h,fun k d p t q _ _ _ h=>by simp [mE] at h,fun d p t q _ _ h=>by simp [mE] at h,fun a s d p t q _ _ h=>by simp [mE] at h,fun d p l q _ _ h=>by simp [mL] at h⟩
   | succ f =>
    have C:=ih f (Nat.lt_succ_self f)
    have Cs:∀ f',f'<=f->DQ f':=fun f' h=>ih f' (Nat.lt_succ_of_le h)
    exact ⟨fun d p t q hp hd h=>Sd C d p t q hp hd h,fun k d p t q hp hk hd h=>Q5 Cs k d p t q hp hk hd h,fun d p t q hp hd h=>Mr C d p t q hp hd h,fun a s d p t q hp hd h=>Q9 C a s d p t q hp hd h,fun d p l q hp hd h=>TA Cs d p l q hp hd h⟩
end Go.Xg
namespace Go.Xg
open Go.RowKit Go.Xw Go.Proofs
open Go.Xp (Tok Nd T aZ one levels gn dI dY dr db)
open Go.Sp
attribute [local irreducible] GW GL GO YG GC GA aQ aR
structure Kj (f:Nat):Prop where
 block:∀ d p t q,p.ok->d+f<=1099511627776->mS f (.block d) p=some (t,q)->GF Tryz.prog 131 [.loc 0 0,.v (ii (d:Nat))] [bR p] (.agg (cT t)) [bR q]
 stmt:∀ d p t q,p.ok->d+f<=1099511627776->mS f (.stmt d) p=some (t,q)->GF Tryz.prog 160 [.loc 0 0,.v (ii (d:Nat))] [bR p] (.agg (cT t)) [bR q]
 cond:∀ a d p t q,p.ok->p.i < p.l.length->d+f<=1099511627776->mS f (.cond a d) p=some (t,q)->GF Tryz.prog 200 [.loc 0 0,.v (ii a),.v (ii (d:Nat))] [bR p] (.agg (cT t)) [bR q]
theorem xP (d:Nat) (p:RS) (t:T) (q:RS) (hp:p.ok) (hd:d<=1099511627777) (h:mX d p=some (t,q)):GF Tryz.prog 199 [.loc 0 0,.v (ii (d:Nat))] [bR p] (.agg (cT t)) [bR q] :=
 (Zn (fe p)).expr d p t q hp (by have:=hp.2;unfold fe;omega) h
theorem Jr (k a:Int) (s:ae):GF Tryz.prog 156 [.v (ii k),.v (ii a),.v (sv s),.v (.slice none 0 0)] [] (.agg [.v (ii k),.v (ii a),.v (ii 0),.v (sv s),ints [],.v (.slice none 0 0)]) []:=by
 refine ah Tryz.func156 Tryz.ntmps156 ?_;refine qF ?_;exact ⟨_,iZ,rfl,rfl⟩
theorem Qy {f:Nat} (C:∀ f',f'<=f->Kj f') (d:Nat) (p:RS) (t:T) (q:RS) (hp:p.ok) (hd:d+(f+1)<=1099511627776) (h:mS (f+1) (.block d) p=some (t,q)) :
  GF Tryz.prog 131 [.loc 0 0,.v (ii (d:Nat))] [bR p] (.agg (cT t)) [bR q]:=by
 rw [mS] at h;have kq:=(nO hp d).ok hp;have vZ:=tX p d hp;generalize p.deep d=p1 at *
 try simp only at h
 have xD:=(ff kq (s:=[123]) (by decide)).ok kq
 cases he:mB f (d+1) [] (p1.aC [123]) with
 | none=>rw [he] at h;cases h
 | some r =>
  obtain ⟨l,q1⟩:=r;rw [he] at h;cases h;generalize ct:p1.place=pl;refine ah Tryz.func131 Tryz.ntmps131 ?_;refine U [0] (vZ) ?_;refine U [0] (ky p1 kq) ?_;refine U [] (Jr 14 p1.place []) ?_;refine U [0] (cX p1 [123] kq (by decide)) ?_;rw [ct];refine GW.wk (Wk.Fh (i:=2) (o:=5) 56 6 rfl rfl) ?_;refine GW.loop (fun x:Nat × List T × RS=>x.1) (fun x fr Γ=>∃ n rows,fr=[.loc 0 0,.v (ii (d:Nat)),.any,.any,.loc 1 0,.loc 2 0,.any,.any,.any,.any,.any,.any,.any,.any,.any,.any,.any,.any,.any,.any,.any,.any,.any,.any,.any,.any,.any,.any,.any,.any,.any,.any,.any,.any,.any,.any]/\Γ=[bR x.2.2,.box 56 zT,.box 56 [.v (ii 14),.v (ii pl),.v (ii 0),.v (sv []),ints [],.vec 3 n],.vec 56 6 0 rows]/\rows.length=n/\rows=aH x.2.1/\n+x.1<=f/\x.2.2.ok/\mB x.1 (d+1) x.2.1 x.2.2=some (l,q1)) (f,[],p1.aC [123]) ?_ ?_
  ·exact ⟨_,_,Wk.av aj,0,[],rfl,rfl,rfl,rfl,by simp,xD,he⟩
  ·rintro ⟨g,acc,p⟩ _ _ ⟨n,rows,rfl,rfl,hn,bj,zc,hp,h⟩;simp only at bj zc hp h
   cases g with
   | zero=>simp [mB] at h
   | succ g =>
   rw [mB] at h
   by_cases hc:p.code=0
   ·have dp:(p.code==0)=true:=by simpa using hc
    by_cases hs:p.sign 0=[125]
    ·rw [if_neg (fun hh=>hh.2 hs)] at h
     obtain ⟨rfl,rfl⟩:acc=l/\p=q1:=by simpa using h
     have nS:(!(p.sign 0==[125]))=false:=by simp [hs]
     subst bj;refine ab ?_;refine U [0] (cY p 0 hp (by decide)) ?_;refine aS ?_;refine ab ?_;refine GL.wk (Wk.wG (i:=2) (o:=5) rfl rfl rfl rfl hn) ?_;refine cS ?_;refine U [0] (cX p [125] hp (by decide)) ?_;exact dm
    ·rw [if_pos ⟨hc,hs⟩] at h
     have nS:(!(p.sign 0==[125]))=true:=by simpa using hs
     cases hb:mS g (.stmt (d+1)) p with
     | none=>rw [hb] at h;cases h
     | some r =>
      obtain ⟨a,p2⟩:=r;rw [hb] at h;simp only at h;have di:=((JB g).1 _ _ _ _ hp (fun a d' h=>by cases h) hb).ok hp;refine ab ?_;refine U [0] (cY p 0 hp (by decide)) ?_;refine GW.draw (.q 0 (.q 1 (.q 2 (.q 3 (.q 4 (.a 5 (.a 6 (.a 7 (.q 8 (.a 9 .nil)))))))))) (by kernel_rfl) (by kernel_rfl) ?_;refine ai ?_;refine ax [0] ((C g (by omega)).stmt (d+1) p a p2 hp (by omega) hb) ?_;refine dk ?_;refine ai ?_;refine sc ?_;refine ai ?_;refine ab ?_;exact ⟨(g,acc++[a],p2),⟨_,_,Wk.av aj,_,_,rfl,rfl,by simp [hn],by rw [tL,bj];rfl,by show n+1+g<=f;omega,di,h⟩,by simp⟩
   ·have dp:(p.code==0)=false:=by simpa using hc
    rw [if_neg (fun hh=>hc hh.1)] at h
    obtain ⟨rfl,rfl⟩:acc=l/\p=q1:=by simpa using h
    subst bj;refine ab ?_;refine aS ?_;refine ab ?_;refine GL.wk (Wk.wG (i:=2) (o:=5) rfl rfl rfl rfl hn) ?_;refine cS ?_;refine U [0] (cX p [125] hp (by decide)) ?_;exact dm
theorem R7 {f:Nat} (C:Kj f) (a:Int) (d:Nat) (p:RS) (t:T) (q:RS) (hp:p.ok) (ao:p.i < p.l.length) (hd:d+(f+1)<=1099511627776) (h:mS (f+1) (.cond a d) p=some (t,q)) :
  GF Tryz.prog 200 [.loc 0 0,.v (ii a),.v (ii (d:Nat))] [bR p] (.agg (cT t)) [bR q]:=by
 rw [mS] at h
 try simp only at h
 have cW:=(dv ao).ok hp;have ct:=hp.2;have xD:=(ff cW (s:=[40]) (by decide)).ok cW
 cases he:mX (d+1) (p.next.aC [40]) with
 | none=>rw [he] at h;cases h
 | some r =>
 obtain ⟨e,p1⟩:=r;rw [he] at h;simp only at h;have ik:=(oC xD he).ok xD;have EE:=(ff ik (s:=[41]) (by decide)).ok ik
 cases hb:mS f (.block (d+1)) (p1.aC [41]) with
 | none=>rw [hb] at h;cases h
 | some r =>
 obtain ⟨b,p2⟩:=r;rw [hb] at h;simp only at h;have di:=((JB f).1 _ _ _ _ EE (fun a d' h=>by cases h) hb).ok EE;have S5:=di.2
 have key:∀ k:Int,(if k=9/\p2.sign 0=dY then match mS f (.block (d+1)) p2.next with
     | none=>none
     | some (b2,q)=>some (one k a [] [e,b,b2],q)
    else some (one k a [] [e,b],p2))=some (t,q)->p.ck=k->(k=9\/k=10)->((p.sign 0==[105,102])=true/\k=9)\/((p.sign 0==[105,102])=false/\k=10):=by
  intro k _ hk _;unfold RS.ck at hk;split at hk
  ·rename_i hs;exact .inl ⟨by rw [hs];rfl,hk.symm⟩
  ·rename_i hs;refine .inr ⟨?_,hk.symm⟩
   cases hq:(p.sign 0==[105,102]) with
   | false=>rfl
   | true=>exact absurd (eq_of_beq hq) hs
 have sF:p.ck=9\/p.ck=10:=by unfold RS.ck;split <;> simp
 have key:=key p.ck h rfl sF;generalize p.ck=k at h key;clear sF
 rcases key with ⟨hs,rfl⟩ | ⟨hs,rfl⟩
 ·by_cases dQ:p2.sign 0=dY
  ·rw [if_pos ⟨rfl,dQ⟩] at h
   have WV:(p2.sign 0==[101,108,115,101])=true:=by rw [dQ];rfl
   have my:=(fv dQ (by decide)).1;have Xe:=(iY dQ (by decide)).ok di
   cases eG:mS f (.block (d+1)) p2.next with
   | none=>rw [eG] at h;cases h
   | some r =>
   obtain ⟨b2,p3⟩:=r;rw [eG] at h;cases h;refine ah Tryz.func200 Tryz.ntmps200 ?_;refine U [0] (cY p 0 hp (by decide)) ?_;refine U [0] (cX p.next [40] cW (by decide)) ?_;refine U [0] (xP (d+1) _ e p1 xD (by omega) he) ?_;refine U [0] (cX p1 [41] ik (by decide)) ?_;refine GW.draw (.q 0 (.q 1 (.q 2 (.q 3 (.a 4 (.a 5 (.q 6 .nil))))))) (by kernel_rfl) (by kernel_rfl) ?_;refine ai ?_;refine ax [0] (C.block (d+1) _ b p2 EE (by omega) hb) ?_;refine sd ?_;refine ai ?_;refine ab ?_;refine U [0] (cY p2 0 di (by decide)) ?_;refine gm [0] (C.block (d+1) _ b2 q Xe (by omega) eG) ?_;refine ea ?_;refine ab ?_;refine GL.wk (Wk.hY (t:=57) rfl rfl rfl rfl) ?_;refine cS ?_;refine U [] (fT 9 a [] [e,b,b2] _ nP) ?_;exact dm
  ·rw [if_neg (fun hh=>dQ hh.2)] at h
   have WV:(p2.sign 0==[101,108,115,101])=false:=by
    cases hq:(p2.sign 0==[101,108,115,101]) with
    | false=>rfl
    | true=>exact absurd (eq_of_beq hq) dQ
   cases h;refine ah Tryz.func200 Tryz.ntmps200 ?_;refine U [0] (cY p 0 hp (by decide)) ?_;refine U [0] (cX p.next [40] cW (by decide)) ?_;refine U [0] (xP (d+1) _ e p1 xD (by omega) he) ?_;refine U [0] (cX p1 [41] ik (by decide)) ?_;refine GW.draw (.q 0 (.q 1 (.q 2 (.q 3 (.a 4 (.a 5 (.q 6 .nil))))))) (by kernel_rfl) (by kernel_rfl) ?_;refine ai ?_;refine ax [0] (C.block (d+1) _ b q EE (by omega) hb) ?_;refine sd ?_;refine ai ?_;refine ab ?_;refine U [0] (cY q 0 di (by decide)) ?_;refine GL.wk (Wk.hY (t:=57) rfl rfl rfl rfl) ?_;refine cS ?_;refine U [] (fT 9 a [] [e,b] _ nP) ?_;exact dm
 ·rw [if_neg (fun hh=>by cases hh.1)] at h;cases h;refine ah Tryz.func200 Tryz.ntmps200 ?_;refine U [0] (cY p 0 hp (by decide)) ?_;refine U [0] (cX p.next [40] cW (by decide)) ?_;refine U [0] (xP (d+1) _ e p1 xD (by omega) he) ?_;refine U [0] (cX p1 [41] ik (by decide)) ?_;refine GW.draw (.q 0 (.q 1 (.q 2 (.q 3 (.a 4 (.a 5 (.q 6 .nil))))))) (by kernel_rfl) (by kernel_rfl) ?_;refine ai ?_;refine ax [0] (C.block (d+1) _ b q EE (by omega) hb) ?_;refine sd ?_;refine ai ?_;refine ab ?_;refine GL.wk (Wk.hY (t:=57) rfl rfl rfl rfl) ?_;refine cS ?_;refine U [] (fT 10 a [] [e,b] _ nP) ?_;exact dm
end Go.Xg
namespace Go.Xg
open Go.RowKit Go.Xw Go.Proofs
open Go.Xp (Tok Nd T aZ one levels gn dI dY dr db)
open Go.Sp
attribute [local irreducible] GW GL GO YG GC GA aQ aR
theorem uM {s t:ae} (h:¬ s=t):(s==t)=false:=by
 cases hq:(s==t) with
 | false=>rfl
 | true=>exact absurd (eq_of_beq hq) h
theorem T8 {f:Nat} (C:Kj f) (d:Nat) (p:RS) (t:T) (q:RS) (hp:p.ok) (hd:d+(f+1)<=1099511627776) (h:mS (f+1) (.stmt d) p=some (t,q)) :
  GF Tryz.prog 160 [.loc 0 0,.v (ii (d:Nat))] [bR p] (.agg (cT t)) [bR q]:=by
 rw [mS] at h;have kq:=(nO hp d).ok hp;have vZ:=tX p d hp;generalize p.deep d=p1 at *
 try simp only at h
 obtain ⟨CU,ct⟩:=id kq;generalize wP:p1.place=at_ at h;refine ah Tryz.func160 Tryz.ntmps160 ?_;refine U [0] (vZ) ?_;refine U [0] (ky p1 kq) ?_;refine gm [0] (cY p1 0 kq (by decide)) ?_;rw [wP]
 by_cases h1:p1.sign 0=gn
 ·rw [if_pos h1] at h
  have e1:(p1.sign 0==[118,97,114])=true:=by rw [h1];rfl
  have ao:=(fv h1 (by decide)).1;have hn:=(iY h1 (by decide)).ok kq;have ek:=(qD hn).ok hn;have jC:=(ff ek (s:=[61]) (by decide)).ok ek
  cases he:mX (d+1) (p1.next.name.2.aC [61]) with
  | none=>rw [he] at h;cases h
  | some r =>
  obtain ⟨e,p2⟩:=r;rw [he] at h;cases h;have di:=(oC jC he).ok jC;refine ab ?_;refine U [0] (xK p1.next hn) ?_;refine U [0] (cX _ [61] ek (by decide)) ?_;refine U [0] (xP (d+1) _ e p2 jC (by omega) he) ?_;refine U [0] (cX p2 [59] di (by decide)) ?_;refine bC ?_;refine ab ?_;refine U [] (fT 13 at_ p1.next.name.1 [e] _ nP) ?_;exact dm
 rw [if_neg h1] at h;have e1:(p1.sign 0==[118,97,114])=false:=uM h1
 by_cases h2:p1.sign 0=dI\/p1.sign 0=dr
 ·rw [if_pos h2] at h
  have e2:(p1.sign 0==[105,102])=true\/((p1.sign 0==[105,102])=false/\(p1.sign 0==[119,104,105,108,101])=true):=by
   rcases h2 with h2 | h2
   ·exact .inl (by rw [h2];rfl)
   ·exact .inr ⟨by rw [h2];rfl,by rw [h2];rfl⟩
  have ao:p1.i < p1.l.length:=by
   rcases h2 with h2 | h2
   ·exact (fv h2 (by decide)).1
   ·exact (fv h2 (by decide)).1
  rcases e2 with e2 | ⟨e2,e3⟩
  all_goals
   refine ab ?_;refine U [0] (C.cond at_ d p1 t q kq ao (by omega) h) ?_;exact dm
 rw [if_neg h2] at h
 have e2:(p1.sign 0==[105,102])=false:=uM fun hh=>h2 (.inl hh)
 have e3:(p1.sign 0==[119,104,105,108,101])=false:=uM fun hh=>h2 (.inr hh)
 by_cases h4:p1.sign 0=db
 ·rw [if_pos h4] at h
  have e4:(p1.sign 0==[114,101,116,117,114,110])=true:=by rw [h4];rfl
  have ao:=(fv h4 (by decide)).1;have hn:=(iY h4 (by decide)).ok kq
  cases he:mX (d+1) p1.next with
  | none=>rw [he] at h;cases h
  | some r =>
  obtain ⟨e,p2⟩:=r;rw [he] at h;cases h;have di:=(oC hn he).ok hn;refine ab ?_;refine U [0] (xP (d+1) _ e p2 hn (by omega) he) ?_;refine U [0] (cX p2 [59] di (by decide)) ?_;refine bC ?_;refine ab ?_;refine U [] (fT 11 at_ [] [e] _ nP) ?_;exact dm
 rw [if_neg h4] at h;have e4:(p1.sign 0==[114,101,116,117,114,110])=false:=uM h4
 by_cases h5:p1.code=0/\p1.nm=true/\p1.sign 1=[61]
 ·rw [if_pos h5] at h;obtain ⟨hc,ED,eL⟩:=h5
  have dp:(p1.code==0)=true:=by simpa using hc
  have Z3:(p1.sign 1==[61])=true:=by rw [eL];rfl
  unfold RS.nm at ED
  cases ht:p1.l[p1.i]? with
  | none=>rw [ht] at ED;cases ED
  | some tk =>
  rw [ht] at ED
  have hk:(tk.kind==2)=true:=by simpa using ED
  have ao:=(List.getElem?_eq_some_iff.1 ht).1
  have NW:decide ((p1.i:Int) < ((p1.l.map c6).length:Int))=true:=by simpa using ao
  have hr:=j0 ht;have ek:=(qD kq).ok kq;have jC:=(ff ek (s:=[61]) (by decide)).ok ek
  cases he:mX (d+1) (p1.name.2.aC [61]) with
  | none=>rw [he] at h;cases h
  | some r =>
  obtain ⟨e,p2⟩:=r;rw [he] at h;cases h;have di:=(oC jC he).ok jC;refine ab ?_;refine GW.draw (.q 0 (.q 1 (.q 2 (.q 3 (.q 4 (.q 5 (.q 6 (.q 7 (.q 8 (.q 9 (.q 10 (.q 11 (.q 12 (.q 13 (.q 14 (.q 15 (.q 16 (.q 17 (.q 18 (.q 19 (.q 20 (.q 21 (.q 22 (.q 23 (.q 24 (.q 25 (.q 26 (.q 27 (.q 28 (.q 29 (.q 30 (.q 31 (.q 32 (.a 33 (.q 34 (.q 35 .nil)))))))))))))))))))))))))))))))))))) (by kernel_rfl) (by kernel_rfl) ?_;refine ai ?_;refine bz [0] (cY p1 1 kq (by decide)) ?_;refine ab ?_;refine U [0] (xK p1 kq) ?_;refine U [0] (cX _ [61] ek (by decide)) ?_;refine U [0] (xP (d+1) _ e p2 jC (by omega) he) ?_;refine U [0] (cX p2 [59] di (by decide)) ?_;refine bC ?_;refine ab ?_;refine U [] (fT 7 at_ p1.name.1 [e] _ nP) ?_;exact dm
 rw [if_neg h5] at h
 cases he:mX (d+1) p1 with
 | none=>rw [he] at h;cases h
 | some r =>
 obtain ⟨e,p2⟩:=r;rw [he] at h;simp only at h;have di:=(oC kq he).ok kq;have S5:=di.2
 have EO:(p1.code==0)=false\/((p1.code==0)=true/\p1.l.length<=p1.i)\/((p1.code==0)=true/\∃ tk,p1.l[p1.i]?=some tk/\((tk.kind==2)=false\/((tk.kind==2)=true/\(p1.sign 1==[61])=false))):=by
  by_cases hc:p1.code=0
  ·refine .inr ?_
   have dp:(p1.code==0)=true:=by simpa using hc
   cases ht:p1.l[p1.i]? with
   | none=>exact .inl ⟨dp,List.getElem?_eq_none_iff.1 ht⟩
   | some tk =>
    refine .inr ⟨dp,tk,rfl,?_⟩
    by_cases hk:tk.kind=2
    ·refine .inr ⟨by simpa using hk,uM fun Yf=>h5 ⟨hc,?_,Yf⟩⟩;unfold RS.nm;rw [ht];simpa using hk
    ·exact .inl (by simpa using hk)
  ·exact .inl (by simpa using hc)
 refine ab ?_;refine GW.join (fun fr Γ=>fr=[.loc 0 0,.v (ii (d:Nat)),.any,.any,.loc 1 0,.v (ii at_),.any,.any,.any,.any,.any,.any,.any,.any,.any,.any,.any,.any,.any,.any,.any,.any,.any,.any,.any,.any,.any,.any,.any,.any,.any,.any,.any,.any,.any,.any,.any,.any,.any,.any,.any,.any,.any,.any,.any,.any,.any,.any,.any,.any,.any,.any,.any,.any,.any,.any,.any,.any,.any,.any,.any,.any,.any,.any,.any,.any,.any,.any,.any,.any,.any,.any,.any,.any,.any,.any,.any,.any,.any,.any,.any,.any,.any,.any,.any,.any,.any,.any,.any,.any,.any,.any,.any,.any,.any,.any,.any,.any,.any,.any,.any,.any,.any,.any,.any,.v (.bool false),.any,.any,.any,.any,.any,.any,.any,.any,.any,.any,.any,.any,.any,.any,.any,.any,.any,.any,.any,.any,.any,.any,.any,.any,.any,.any,.any,.any,.any,.any,.any,.any,.any,.any,.any,.any,.any,.any,.any,.any,.any,.any,.any,.any,.any,.any,.any,.any,.any,.any,.any,.any,.any,.any,.any,.any,.any,.any,.any,.any,.any,.any,.any,.any,.any]/\Γ=[bR p1,.box 56 zT]) ?_ ?_
 ·rcases EO with dp | ⟨dp,lk⟩ | ⟨dp,tk,ht,hk | ⟨hk,eL⟩⟩
  ·refine GW.draw (.q 0 (.q 1 (.q 2 (.q 3 (.q 4 (.q 5 (.q 6 (.q 7 (.q 8 (.q 9 (.q 10 (.q 11 (.q 12 (.q 13 (.q 14 (.q 15 (.q 16 (.q 17 (.q 18 (.q 19 (.q 20 (.q 21 (.q 22 (.q 23 (.q 24 (.q 25 (.q 26 (.q 27 (.q 28 (.q 29 (.q 30 (.q 31 (.q 32 (.a 33 (.q 34 (.q 35 .nil)))))))))))))))))))))))))))))))))))) (by kernel_rfl) (by kernel_rfl) ?_;refine ai ?_;exact aJ ⟨_,_,Wk.av aj,rfl,rfl⟩
  ·have NW:decide ((p1.i:Int) < ((p1.l.map c6).length:Int))=false:=by simpa using lk
   refine GW.draw (.q 0 (.q 1 (.q 2 (.q 3 (.q 4 (.q 5 (.q 6 (.q 7 (.q 8 (.q 9 (.q 10 (.q 11 (.q 12 (.q 13 (.q 14 (.q 15 (.q 16 (.q 17 (.q 18 (.q 19 (.q 20 (.q 21 (.q 22 (.q 23 (.q 24 (.q 25 (.q 26 (.q 27 (.q 28 (.q 29 (.q 30 (.q 31 (.q 32 (.a 33 (.q 34 (.q 35 .nil)))))))))))))))))))))))))))))))))))) (by kernel_rfl) (by kernel_rfl) ?_;refine ai ?_;exact aJ ⟨_,_,Wk.av aj,rfl,rfl⟩
  ·have ao:=(List.getElem?_eq_some_iff.1 ht).1
   have NW:decide ((p1.i:Int) < ((p1.l.map c6).length:Int))=true:=by simpa using ao
   have hr:=j0 ht;refine GW.draw (.q 0 (.q 1 (.q 2 (.q 3 (.q 4 (.q 5 (.q 6 (.q 7 (.q 8 (.q 9 (.q 10 (.q 11 (.q 12 (.q 13 (.q 14 (.q 15 (.q 16 (.q 17 (.q 18 (.q 19 (.q 20 (.q 21 (.q 22 (.q 23 (.q 24 (.q 25 (.q 26 (.q 27 (.q 28 (.q 29 (.q 30 (.q 31 (.q 32 (.a 33 (.q 34 (.q 35 .nil)))))))))))))))))))))))))))))))))))) (by kernel_rfl) (by kernel_rfl) ?_;refine ai ?_;exact aJ ⟨_,_,Wk.av aj,rfl,rfl⟩
  ·have ao:=(List.getElem?_eq_some_iff.1 ht).1
   have NW:decide ((p1.i:Int) < ((p1.l.map c6).length:Int))=true:=by simpa using ao
   have hr:=j0 ht;refine GW.draw (.q 0 (.q 1 (.q 2 (.q 3 (.q 4 (.q 5 (.q 6 (.q 7 (.q 8 (.q 9 (.q 10 (.q 11 (.q 12 (.q 13 (.q 14 (.q 15 (.q 16 (.q 17 (.q 18 (.q 19 (.q 20 (.q 21 (.q 22 (.q 23 (.q 24 (.q 25 (.q 26 (.q 27 (.q 28 (.q 29 (.q 30 (.q 31 (.q 32 (.a 33 (.q 34 (.q 35 .nil)))))))))))))))))))))))))))))))))))) (by kernel_rfl) (by kernel_rfl) ?_;refine ai ?_;refine bz [0] (cY p1 1 kq (by decide)) ?_;exact aJ ⟨_,_,Wk.av (by repeat (first | exact sn.nil | refine sn.any ?_ | refine sn.eq rfl ?_ | refine sn.eq (by rw [eL]) ?_)),rfl,rfl⟩
 ·rintro _ _ ⟨rfl,rfl⟩;refine ab ?_;refine U [0] (xP (d+1) _ e p2 kq (by omega) he) ?_
  by_cases k3:e.n.kind=3
  ·have Zf:(e.n.kind==3)=true:=by simpa using k3
   by_cases ka:e.n.at_=at_
   ·have Zg:(e.n.at_==at_)=true:=by simpa using ka
    by_cases ks:p2.sign 0=[61]
    ·have Zh:(p2.sign 0==[61])=true:=by rw [ks];rfl
     rw [if_pos ⟨k3,ka,ks⟩] at h;have ao:=(fv ks (by decide)).1;have hn:=(iY ks (by decide)).ok di
     cases hk:e.kids with
     | nil=>rw [hk] at h;cases h
     | cons a rest =>
     cases hv:mX (d+1) p2.next with
     | none=>rw [hk,hv] at h;cases h
     | some r =>
     obtain ⟨v,p3⟩:=r;rw [hk,hv] at h;cases h;have ze:=(oC hn hv).ok hn
     have hr:(aH (a::rest))[0]?=some (cT a):=by simp [aH,rX]
     refine ab ?_;refine U [0] (cY p2 0 di (by decide)) ?_;refine U [0] (xP (d+1) _ v p3 hn (by omega) hv) ?_;refine U [0] (cX p3 [59] ze (by decide)) ?_;refine GW.draw (.q 0 (.q 1 (.q 2 (.q 3 (.q 4 (.q 5 (.q 6 (.q 7 (.q 8 (.a 9 (.a 10 (.a 11 .nil)))))))))))) (by kernel_rfl) (by kernel_rfl) ?_;refine ai ?_;refine dk ?_;refine ai ?_;refine wK [] (fT 8 at_ e.n.s [a,v] _ nP) ?_;refine FZ ?_;refine ai ?_;exact jK
    ·have Zh:(p2.sign 0==[61])=false:=uM ks;rw [if_neg (fun hh=>ks hh.2.2)] at h;cases h;refine ab ?_;refine U [0] (cY p2 0 di (by decide)) ?_;refine U [0] (cX p2 [59] di (by decide)) ?_;refine bC ?_;refine ab ?_;refine U [] (fT 12 at_ [] [e] _ nP) ?_;exact dm
   ·have Zg:(e.n.at_==at_)=false:=by simpa using ka
    rw [if_neg (fun hh=>ka hh.2.1)] at h;cases h;refine ab ?_;refine U [0] (cX p2 [59] di (by decide)) ?_;refine bC ?_;refine ab ?_;refine U [] (fT 12 at_ [] [e] _ nP) ?_;exact dm
  ·have Zf:(e.n.kind==3)=false:=by simpa using k3
   rw [if_neg (fun hh=>k3 hh.1)] at h;cases h;refine ab ?_;refine U [0] (cX p2 [59] di (by decide)) ?_;refine bC ?_;refine ab ?_;refine U [] (fT 12 at_ [] [e] _ nP) ?_;exact dm
theorem Zq (f:Nat):Kj f:=by
 induction f using Nat.strongRecOn with
 | _ f ih =>
  cases f with
  | zero=>exact ⟨fun d p t q _ _ h=>by simp [mS] at h,fun d p t q _ _ h=>by simp [mS] at h,fun a d p t q _ _ _ h=>by simp [mS] at h⟩
  | succ f =>
   have C:=ih f (Nat.lt_succ_self f)
   have Cs:∀ f',f'<=f->Kj f':=fun f' h=>ih f' (Nat.lt_succ_of_le h)
   exact ⟨fun d p t q hp hd h=>Qy Cs d p t q hp hd h,fun d p t q hp hd h=>T8 C d p t q hp hd h,fun a d p t q hp hl hd h=>R7 C a d p t q hp hl hd h⟩
end Go.Xg
namespace Go.Xg
open Go.RowKit Go.Xw Go.Proofs
open Go.Xp (Tok Nd T aZ one levels Ar)
open Go.Sp
attribute [local irreducible] GW GL GO YG GC GA aQ aR
def au (n:Nd):List GV:=[.v (ii n.kind),.v (ii n.at_),.v (ii n.n),.v (sv n.s),ints n.kids]
def aq (f:Go.Sp.Fn):List GV:=[.v (sv f.name),strs f.params,.v (ii f.body)]
def ay (a:Ar):List GV:=[.v (sv a.name),.v (ii a.size)]
abbrev ak (p:Src):List GV:=[strs p.globals,.sl 2 (p.arrays.map ay),.sl 3 (p.fns.map aq),.sl 5 (p.nodes.map au)]
theorem Gt (k:Int):GF Tryz.prog 215 [.v (ii k)] [] (.v (.bool (me k))) []:=by
 unfold me;refine cM Tryz.func215 Tryz.ntmps215 ?_
 cases h:decide ((1:Int)<=k)
 all_goals
  exact ar
theorem Gu (k:Int):GF Tryz.prog 189 [.v (ii k)] [] (.v (.bool (fZ k))) []:=by
 unfold fZ;refine cM Tryz.func189 Tryz.ntmps189 ?_
 cases h:decide ((7:Int)<=k)
 all_goals
  exact ar
theorem sP (s:ae):GF Tryz.prog 188 [.v (sv s)] [] (.v (.bool (ep s))) []:=by
 refine ah Tryz.func188 Tryz.ntmps188 ?_;refine U [] (jv) ?_;refine GW.range (levels.map fun l=>[strs l]).length (fun k fr Γ=>fr=[.v (sv s),.any,.any,.any,.any,.sl 1 (levels.map fun l=>[strs l]),.v (ii ((levels.map fun l=>[strs l]).length:Int)),.v (ii (k:Nat)),.any,.any,.any,.any,.any,.any,.any]/\Γ=[]/\((levels.take k).any fun l=>l.contains s)=false) ?_ (by decide) ?_ ?_ ?_
 ·exact ⟨_,_,Wk.av aj,rfl,rfl,rfl⟩
 ·rintro k _ _ ⟨rfl,rfl,_⟩;exact ⟨rfl,rfl,rfl⟩
 ·rintro k _ _ hk ⟨rfl,rfl,hf⟩
  have hk:k < levels.length:=by simpa using hk
  have hx:levels[k]?=some levels[k]:=by simp [hk]
  have hr:(levels.map fun l=>[strs l])[k]?=some [strs levels[k]]:=by simp [hk]
  have zg:levels[k].length<=1099511627776:=by
   have:∀ l∈levels,l.length<=1099511627776:=by decide
   exact this _ (getElem_mem hk)
  generalize levels[k]=x at *;have hh:=gE x s zg
  cases hb:x.contains s with
  | true =>
   rw [hb] at hh
   have ha:ep s=true:=by
    unfold ep;rw [List.any_eq_true];exact ⟨x,mem_of_getElem? hx,hb⟩
   refine ab ?_;refine U [] (hh) ?_;refine bI ?_;rw [ha];exact ⟨rfl,rfl⟩
  | false =>
   rw [hb] at hh;refine ab ?_;refine U [] (hh) ?_;exact ⟨rfl,rfl,_,_,Wk.av aj,rfl,rfl,by rw [take_add_one,hx,List.any_append,hf];simp only [Option.toList,List.any_cons,List.any_nil,hb];rfl⟩
 ·rintro _ _ ⟨rfl,rfl,hf⟩
  have hf:ep s=false:=by
   rw [take_of_length_le (by simp)] at hf;exact hf
  refine ab ?_;refine bI ?_;rw [hf];exact ⟨rfl,rfl⟩
theorem cz {l:List T} {i:Nat} {t:T} (h:l[i]?=some t):(aH l)[i]?=some (cT t):=by
 induction l generalizing i with
 | nil=>simp at h
 | cons a l ih =>
  cases i with
  | zero=>cases h;simp [aH,rX]
  | succ i=>simpa [aH] using ih (by simpa using h)
theorem eS (t:T) (m:Nat) (hl:t.kids.length<=1099511627776):GF Tryz.prog 187 [.agg (cT t),.v (ii (m:Nat))] [] (.v (.bool (ba m 0 t.kids))) []:=by
 refine ah Tryz.func187 Tryz.ntmps187 ?_;refine GW.range (aH t.kids).length (fun k fr Γ=>fr=[.any,.v (ii (m:Nat)),.any,.any,.any,.any,.any,.any,.sl 6 (aH t.kids),.v (ii ((aH t.kids).length:Int)),.v (ii (k:Nat)),.any,.any,.any,.any,.any,.any,.any,.any,.any,.any,.any,.any,.any,.any,.any,.any,.any,.any,.any,.any,.any,.any,.any,.any,.any,.any]/\Γ=[]/\ba m k (t.kids.drop k)=ba m 0 t.kids) ?_ (by rw [aL];exact hl) ?_ ?_ ?_
 ·exact ⟨_,_,(Wk.cut (n:=0) (Nat.le_refl _) rfl).trans (Wk.av aj),rfl,rfl,rfl⟩
 ·rintro k _ _ ⟨rfl,rfl,_⟩;exact ⟨rfl,rfl,rfl⟩
 ·rintro k _ _ hk ⟨rfl,rfl,hf⟩
  have hk:k < t.kids.length:=by rw [aL] at hk;exact hk
  have hx:t.kids[k]?=some t.kids[k]:=by simp [hk]
  have hr:=cz hx;rw [List.drop_eq_getElem_cons hk,ba] at hf;generalize t.kids[k]=x at *;have he:=Gt x.n.kind
  by_cases hm:k < m
  ·have VS:decide ((k:Int) < (m:Int))=true:=by simpa using hm
   have Ey:decide ((m:Int)<=(k:Int))=false:=by simpa using hm
   rw [if_pos hm] at hf
   cases hb:me x.n.kind with
   | true =>
    rw [hb] at he hf;refine ab ?_;refine U [] (he) ?_;exact ⟨rfl,rfl,_,_,(Wk.cut (n:=0) (Nat.le_refl _) rfl).trans (Wk.av aj),rfl,rfl,by simpa using hf⟩
   | false =>
    rw [hb] at he hf;refine ab ?_;refine U [] (he) ?_;refine bI ?_;rw [<-hf];exact ⟨rfl,rfl⟩
  ·have VS:decide ((k:Int) < (m:Int))=false:=by simp;omega
   have Ey:decide ((m:Int)<=(k:Int))=true:=by simp;omega
   rw [if_neg hm] at hf
   cases hb:(x.n.kind==14) with
   | true =>
    rw [hb] at hf
    have aY:(x.n.kind != 14)=false:=by simp only [bne,hb];rfl
    refine ab ?_;exact ⟨rfl,rfl,_,_,(Wk.cut (n:=0) (Nat.le_refl _) rfl).trans (Wk.av aj),rfl,rfl,by simpa using hf⟩
   | false =>
    rw [hb] at hf
    have aY:(x.n.kind != 14)=true:=by simp only [bne,hb];rfl
    refine ab ?_;refine bI ?_;rw [<-hf];exact ⟨rfl,rfl⟩
 ·rintro _ _ ⟨rfl,rfl,hf⟩;rw [aL,List.drop_length,ba] at hf;refine ab ?_;refine bI ?_;rw [<-hf];exact ⟨rfl,rfl⟩
theorem fV {l:List Nd} {i:Nat} {n:Nd} (h:l[i]?=some n):(l.map au)[i]?=some (au n):=by rw [getElem?_map,h];rfl
theorem mq {l:List Int} {i:Nat} {n:Int} (h:l[i]?=some n):(l.map fun i=>[GV.v (ii i)])[i]?=some [.v (ii n)]:=by rw [getElem?_map,h];rfl
theorem DH (p:Src) (hk:∀ n∈p.nodes,n.kids.length<=1000000000000):∀ (f a:Nat) (t:T),sub p.nodes f a=some t->GF Tryz.prog 60 [.agg (ak p),.v (ii (a:Nat))] [] (.agg (cT t)) []:=by
 intro f
 induction f using Nat.strongRecOn with
 | _ f ih =>
 intro a t h
 cases f with
 | zero=>simp [sub] at h
 | succ f =>
 rw [sub] at h
 cases hn:p.nodes[a]? with
 | none=>rw [hn] at h;cases h
 | some n =>
 rw [hn] at h;simp only at h
 cases hs:n5 p.nodes f n.kids [] with
 | none=>rw [hs] at h;cases h
 | some l =>
 rw [hs] at h;cases h;have hr:=fV hn;have ef:=hk n (mem_of_getElem? hn);refine ah Tryz.func60 Tryz.ntmps60 ?_;refine GW.wk (Wk.Fh (i:=2) (o:=5) 56 6 rfl rfl) ?_
 refine GW.range (n.kids.map fun i=>[GV.v (ii i)]).length (fun k fr Γ=>∃ rows acc g,fr=[.any,.v (ii (a:Nat)),.loc 0 0,.any,.loc 1 0,.loc 2 0,.any,.any,.any,.any,.any,.any,.any,.any,.any,.any,.any,.any,.any,ints n.kids,.v (ii ((n.kids.map fun i=>[GV.v (ii i)]).length:Int)),.v (ii (k:Nat)),.any,.any,.any,.any,.any,.any,.any,.any,.any,.any,.any,.any,.any] /\
   Γ=[.box 34 (ak p),.box 56 zT,.box 56 [.v (ii n.kind),.v (ii n.at_),.v (ii n.n),.v (sv n.s),ints n.kids,.vec 3 k],.vec 56 6 0 rows] /\
   rows.length=k/\rows=aH acc/\g<=f/\n5 p.nodes g (n.kids.drop k) acc=some l) ?_ (by simp;omega) ?_ ?_ ?_
 ·exact ⟨_,_,Wk.av aj,[],[],f,rfl,rfl,rfl,rfl,Nat.le_refl _,hs⟩
 ·rintro k _ _ ⟨_,_,_,rfl,rfl,_⟩;exact ⟨rfl,rfl,rfl⟩
 ·rintro k _ _ ao ⟨rows,acc,g,rfl,rfl,sJ,bj,hg,h⟩
  have ao:k < n.kids.length:=by simpa using ao
  have hx:n.kids[k]?=some n.kids[k]:=by simp [ao]
  rw [List.drop_eq_getElem_cons ao] at h;generalize n.kids[k]=x at *
  cases g with
  | zero=>simp [n5] at h
  | succ g =>
  rw [n5] at h
  by_cases nT:x < 0
  ·rw [if_pos nT] at h;cases h
  rw [if_neg nT] at h
  cases bq:sub p.nodes g x.toNat with
  | none=>rw [bq] at h;cases h
  | some t =>
  rw [bq] at h;simp only at h;have yu:=ih g (by omega) x.toNat t bq;rw [Int.toNat_of_nonneg (by omega)] at yu;have tS:=mq hx;refine ab ?_;refine GW.draw (.q 0 (.q 1 (.q 2 (.q 3 (.a 4 (.a 5 (.a 6 (.q 7 (.a 8 .nil))))))))) (by kernel_rfl) (by kernel_rfl) ?_;refine ai ?_;refine ax [] (yu) ?_;refine dk ?_;refine ai ?_;refine sc ?_;refine ai ?_;refine ab ?_;exact ⟨rfl,rfl,_,_,Wk.av aj,_,acc++[t],g,rfl,rfl,by rw [length_append,sJ];rfl,by rw [tL,bj];rfl,by omega,h⟩
 ·rintro _ _ ⟨rows,acc,g,rfl,rfl,sJ,bj,hg,h⟩;rw [length_map,List.drop_length] at h
  have kO:acc=l:=by cases g <;> (rw [n5] at h;cases h;rfl)
  subst kO;subst bj;refine aJ (GW.wk (Wk.wG (i:=2) (o:=5) rfl rfl rfl rfl sJ) ?_);exact jK
end Go.Xg
namespace Go.Xg
open Go.RowKit Go.Xw Go.Proofs
open Go.WideShapes Go.Deep
open Go.Xp (Nd Ar)
open Go.Sp (Src)
open Go.Im (Small im)
def flat (v:Value):Prop:=∀ a n c,v≠.slice a n c
def vK (W:World) (v:Value) (xs:List Value):Prop:=∃ a c,v=.slice a xs.length c/\(xs=[]\/∃ b o,a=some ⟨b,o,none⟩/\xs.length<=c/\∀ i x,xs[i]?=some x->fF W.heap b (o+i)=some x/\flat x)
theorem vK.uniq {W:World} {v:Value} {xs ys:List Value} (h:vK W v xs) (k:vK W v ys):xs=ys:=by
 obtain ⟨a,c,h1,h2⟩:=h;obtain ⟨a',c',k1,k2⟩:=k;rw [h1] at k1
 injection k1 with e1 e2 e3
 subst e1 e3
 rcases h2 with rfl | ⟨b,o,h3,h4,h5⟩
 ·exact (eq_nil_of_length_eq_zero (by simpa using e2.symm)).symm
 ·rcases k2 with rfl | ⟨b',o',k3,k4,k5⟩
  ·exact eq_nil_of_length_eq_zero (by simpa using e2)
  ·rw [h3] at k3;cases k3;apply ext_getElem e2;intro i hi hj;have a1:=(h5 i _ (getElem?_eq_getElem hi)).1;have a2:=(k5 i _ (getElem?_eq_getElem hj)).1;rw [a1] at a2;exact Option.some.inj a2
open Classical in
noncomputable def KW (W:World):Fz:=fun b o=>match fF W.heap b o with
 | none=>none
 | some v=>if ∃ a n c,v=.slice a n c then (if h:∃ xs,vK W v xs then some (.sl 1 (h.choose.map fun x=>[.v x])) else none) else some (.v v)
theorem lg {W:World} {b o:Nat} {v:Value} (h:fF W.heap b o=some v) (hf:flat v):KW W b o=some (.v v):=by
 unfold KW;rw [h];simp only;rw [if_neg (by rintro ⟨a,n,c,e⟩;exact hf a n c e)]
theorem Pp {W:World} {b o:Nat} {v:Value} {xs:List Value} (h:fF W.heap b o=some v) (hx:vK W v xs):KW W b o=some (.sl 1 (xs.map fun x=>[.v x])):=by
 have hs:∃ a n c,v=.slice a n c:=by obtain ⟨a,c,e,_⟩:=hx;exact ⟨_,_,_,e⟩
 have hex:∃ xs,vK W v xs:=⟨xs,hx⟩;unfold KW;rw [h];simp only;rw [if_pos hs,dif_pos hex,hex.choose_spec.uniq hx]
theorem My {W:World} {v:Value} {xs:List Value} (hx:vK W v xs) (β:Bt):Rel (KW W) β v (.sl 1 (xs.map fun x=>[GV.v x])):=by
 obtain ⟨a,c,rfl,h⟩:=hx
 rcases h with rfl | ⟨b,o,rfl,hc,kX⟩
 ·exact .sl0 a c 1
 ·have:=Rel.sl (K:=KW W) (β:=β) b o c 1 (xs.map fun x=>[GV.v x]) (fun i r hr=>by
   rw [getElem?_map] at hr
   cases hi:xs[i]? with
   | none=>rw [hi] at hr;cases hr
   | some x =>
    rw [hi] at hr;cases hr;obtain ⟨h1,h2⟩:=kX i x hi;refine ⟨rfl,fun j g hg=>?_⟩
    cases j with
    | zero=>cases hg;rw [Nat.mul_one,Nat.add_zero];exact lg h1 h2
    | succ j=>simp at hg) (by rw [length_map];exact hc)
  rw [length_map] at this;exact this
theorem Ur (W:World):jj (KW W) W:=fun b o g h=>by
 unfold KW at h
 cases hc:fF W.heap b o with
 | none=>rw [hc] at h;cases h
 | some v =>
  rw [hc] at h;simp only at h;split at h
  ·split at h
   ·rename_i hex;cases h;exact ⟨rfl,v,rfl,My hex.choose_spec _⟩
   ·cases h
  ·cases h;exact ⟨rfl,v,rfl,.v v⟩
theorem OE {W:World} {v:Value} {k:Nat} {rows:List (List GV)} {a:Option Addr} {n c:Nat} (β:Bt) (hv:v=.slice a n c) (hn:rows.length=n)
  (h:n=0\/∃ b o,a=some ⟨b,o,none⟩/\n<=c/\∀ i r,rows[i]?=some r->r.length=k/\∀ j g,r[j]?=some g->KW W b (o+i * k+j)=some g):Rel (KW W) β v (.sl k rows):=by
 subst hv hn
 rcases h with h | ⟨b,o,rfl,hc,hr⟩
 ·have:=eq_nil_of_length_eq_zero h;subst this;exact .sl0 a c k
 ·exact .sl b o c k rows hr hc
theorem zC {W:World} {a:Addr} {n:Nat} {v:Value} (h:W.cell? (a.add n)=some v):fF W.heap a.block (a.off+n)=some v:=by
 unfold Addr.add at h;split at h
 ·rename_i h0;subst h0;obtain ⟨b,o,s⟩:=a;have hs:=World.cell?_spot h;simp only at hs;subst hs;rw [eY] at h;exact h
 ·obtain ⟨b,o,s⟩:=a;simp only at h;rw [eY] at h;exact h
theorem zB {W:World} {a:Addr} {v:Value} (h:W.cell? (a.add 0)=some v):a.spot=none:=by
 have:=World.cell?_spot h;unfold Addr.add at this;rw [if_pos rfl] at this;exact this
theorem qK {α:Type} {Q:Nat->α->Prop}:∀ {n:Nat},(∀ i,i < n->∃ x,Q i x)->∃ l:List α,l.length=n/\∀ i x,l[i]?=some x->Q i x
 | 0,_=>⟨[],rfl,fun i x h=>by simp at h⟩
 | n+1,h=>by
  obtain ⟨l,h1,h2⟩:=qK (n:=n) fun i hi=>h i (by omega)
  obtain ⟨x,hx⟩:=h n (by omega);refine ⟨l++[x],by simp [h1],fun i y hi=>?_⟩
  by_cases u7:i < n
  ·rw [getElem?_append_left (by omega)] at hi;exact h2 i y hi
  ·have ao:=(List.getElem?_eq_some_iff.1 hi).1;rw [length_append,length_cons,length_nil] at ao
   have:i=n:=by omega
   subst this;rw [List.getElem?_append_right (by omega),h1,Nat.sub_self] at hi
   cases hi;exact hx
theorem max_le {n:Nat} (h:n<=maxLen):n<=9223372036854775807:=by unfold maxLen at h;omega
section
variable {H:Type} {enc:TypeId × Value->H} {P:Program} {W:World}
theorem Fl {t e:TypeId} {n:Nat} {v:Value} {y:DataW H × List MemPlace} (ht:P.underlying t=some (.slice e)) (he:P.underlying e=some .string) (hc:P.cellsOf e=1) (h:DataW.trod enc P W 0 (fun _=>true) true n t [v]=some y) :
  ∃ l:List ae,vK W v (l.map sv)/\l.length<=9223372036854775807/\∀ s∈l,s.length<=9223372036854775807:=by
 rcases open_slice1 ht hc h with ⟨fG,_⟩ | ⟨a,len,cap,m,n',V,D,Pl,fG,_,hl,hm,rf,_,hx⟩
 ·injection fG with hv;subst hv
  exact ⟨[],⟨none,0,rfl,.inl rfl⟩,Nat.zero_le _,fun s h=>by cases h⟩
 ·injection fG with hv _;subst hv
  simp only [if_true] at rf
  obtain ⟨l,h1,h2⟩:=qK (n:=len) (Q:=fun i (s:ae)=>W.cell? (a.add i)=some (sv s)/\s.length<=9223372036854775807) (fun i hi=>by
   obtain ⟨c1,c2⟩:=hx i (by omega);obtain ⟨s,hs,_,hz⟩:=DataW.trod_string he c2
   injection hs with hs _
   rw [hs] at c1
   exact ⟨s.data.toList,by rw [<-uf];exact c1,max_le hz⟩)
  refine ⟨l,⟨some a,cap,by rw [length_map,h1],?_⟩,by rw [h1];exact max_le (Nat.le_trans hl hm),fun s hs=>?_⟩
  ·by_cases h0:len=0
   ·have:l=[]:=eq_nil_of_length_eq_zero (by omega);subst this;exact .inl rfl
   ·refine .inr ⟨a.block,a.off,?_,by rw [length_map,h1];exact hl,fun i x hi=>?_⟩
    ·have xz:l[0]?=some (l[0]'(by omega)):=getElem?_eq_getElem _;have:=zB (h2 0 _ xz).1;obtain ⟨b,o,s⟩:=a;simp only at this;rw [this]
    ·rw [getElem?_map] at hi
     cases hli:l[i]? with
     | none=>rw [hli] at hi;cases hi
     | some s =>
      rw [hli] at hi;cases hi;exact ⟨zC (h2 i s hli).1,fun a n c e=>by cases e⟩
  ·obtain ⟨i,hi⟩:=List.getElem?_of_mem hs;exact (h2 i s hi).2
theorem OB {t e:TypeId} {n:Nat} {v:Value} {y:DataW H × List MemPlace} (ht:P.underlying t=some (.slice e)) (he:P.underlying e=some (.int .i64)) (hc:P.cellsOf e=1) (h:DataW.trod enc P W 0 (fun _=>true) true n t [v]=some y) :
  ∃ l:List Int,vK W v (l.map ii)/\l.length<=9223372036854775807:=by
 rcases open_slice1 ht hc h with ⟨fG,_⟩ | ⟨a,len,cap,m,n',V,D,Pl,fG,_,hl,hm,rf,_,hx⟩
 ·injection fG with hv;subst hv
  exact ⟨[],⟨none,0,rfl,.inl rfl⟩,Nat.zero_le _⟩
 ·injection fG with hv _;subst hv
  simp only [if_true] at rf
  obtain ⟨l,h1,h2⟩:=qK (n:=len) (Q:=fun i (z:Int)=>W.cell? (a.add i)=some (ii z)) (fun i hi=>by
   obtain ⟨c1,c2⟩:=hx i (by omega);obtain ⟨z,hs,_,hz⟩:=DataW.trod_int he c2
   injection hs with hs _
   rw [hs] at c1
   exact ⟨z,c1⟩)
  refine ⟨l,⟨some a,cap,by rw [length_map,h1],?_⟩,by rw [h1];exact max_le (Nat.le_trans hl hm)⟩
  by_cases h0:len=0
  ·have:l=[]:=eq_nil_of_length_eq_zero (by omega);subst this;exact .inl rfl
  ·refine .inr ⟨a.block,a.off,?_,by rw [length_map,h1];exact hl,fun i x hi=>?_⟩
   ·have xz:l[0]?=some (l[0]'(by omega)):=getElem?_eq_getElem _;have:=zB (h2 0 _ xz);obtain ⟨b,o,s⟩:=a;simp only at this;rw [this]
   ·rw [getElem?_map] at hi
    cases hli:l[i]? with
    | none=>rw [hli] at hi;cases hi
    | some s =>
     rw [hli] at hi;cases hi;exact ⟨zC (h2 i s hli),fun a n c e=>by cases e⟩
theorem z8 {α:Type} {t e:TypeId} {fs:Array Field} {k n:Nat} {v:Value} {y:DataW H × List MemPlace} (f:α->List GV) (Q:α->Prop) (β:Bt) (ht:P.underlying t=some (.slice e)) (he:P.underlying e=some (.struct fs)) (eH:oneCellFields P fs=true) (hC:P.cellsOf e=k) (hk:fs.size=k) (zb:0 < k)
  (each:∀ b o,(∀ (j:Nat) (fl:Field),fs[j]?=some fl->∃ v y n,fF W.heap b (o+j)=some v/\DataW.trod enc P W 0 (fun _=>true) true n fl.type [v]=some y)->∃ x,Q x/\(f x).length=k/\∀ j g,(f x)[j]?=some g->KW W b (o+j)=some g)
  (h:DataW.trod enc P W 0 (fun _=>true) true n t [v]=some y):∃ l:List α,Rel (KW W) β v (.sl k (l.map f))/\l.length<=9223372036854775807/\∀ x∈l,Q x:=by
 rcases open_slice ht h with ⟨fG,_⟩ | ⟨a,len,cap,m,n',D,Pl,fG,_,hl,hm,rf,_,hx⟩
 ·injection fG with hv;subst hv
  exact ⟨[],.sl0 none 0 k,Nat.zero_le _,fun s h=>by cases h⟩
 ·injection fG with hv _;subst hv
  simp only [if_true] at rf
  have kX:∀ i,i < len->∀ (j:Nat) (fl:Field),fs[j]?=some fl->∃ v y n,W.cell? (a.add (i * k+j))=some v/\DataW.trod enc P W 0 (fun _=>true) true n fl.type [v]=some y:=by
   intro i hi j fl hj;obtain ⟨yU,hc,EM⟩:=hx i (by omega);rw [hC] at hc;obtain ⟨ys,n',AQ,hy,hlen,V9,hf⟩:=DataW.trod_struct he EM;obtain ⟨_,Hy,wP⟩:=World.cells?_some hc;obtain ⟨ho,tR⟩:=hone_of eH j fl hj;have xy:j < fs.size:=(Array.getElem?_eq_some_iff.1 hj).1;have kX:=wP j (by omega);have hv:yU[j]?=some (yU[j]'(by omega)):=getElem?_eq_getElem (by omega);have h1:=hf j fl hj;rw [ho,tR] at h1
   have UR:(yU.drop j).take 1=[yU[j]'(by omega)]:=by
    rw [List.drop_eq_getElem_cons (by omega)];rfl
   rw [UR] at h1;have Y4:ys[j]?=some (ys[j]'(by omega)):=getElem?_eq_getElem (by omega);refine ⟨_,_,_,?_,h1.trans Y4⟩;rw [<-Go.Deep.add_add,kX,hv]
  obtain ⟨l,h1,h2⟩:=qK (n:=len) (Q:=fun i x=>Q x/\(f x).length=k/\∀ j g,(f x)[j]?=some g->KW W a.block (a.off+i * k+j)=some g) (fun i hi =>
   each a.block (a.off+i * k) fun j fl hj=>by
    obtain ⟨v,y,n,c1,c2⟩:=kX i hi j fl hj
    exact ⟨v,y,n,by rw [Nat.add_assoc];exact zC c1,c2⟩)
  refine ⟨l,OE (n:=len) (c:=cap) β rfl (by rw [length_map,h1]) ?_,by rw [h1];exact max_le (Nat.le_trans hl hm),fun x hx=>?_⟩
  ·by_cases h0:len=0
   ·exact .inl h0
   ·refine .inr ⟨a.block,a.off,?_,hl,fun i r hr=>?_⟩
    ·obtain ⟨v,y,n,c1,c2⟩:=kX 0 (by omega) 0 (fs[0]'(by omega)) (Array.getElem?_eq_getElem (by omega));rw [Nat.zero_mul,Nat.add_zero] at c1;have:=zB c1;obtain ⟨b,o,s⟩:=a;simp only at this;rw [this]
    ·rw [getElem?_map] at hr
     cases hli:l[i]? with
     | none=>rw [hli] at hr;cases hr
     | some x =>
      rw [hli] at hr;cases hr;exact (h2 i x hli).2
  ·obtain ⟨i,hi⟩:=List.getElem?_of_mem hx;exact (h2 i x hi).1
end
theorem FI (l:List ae):GV.sl 1 ((l.map sv).map fun x=>[GV.v x])=strs l:=by rw [map_map];rfl
theorem N5 (l:List Int):GV.sl 1 ((l.map ii).map fun x=>[GV.v x])=ints l:=by rw [map_map];rfl
theorem wf_i64 {z:Int} (h:(Lit.int .i64 z).wf=true) : -9223372036854775808<=z/\z<=9223372036854775807:=by
 simp only [Lit.wf,Bool.and_eq_true,decide_eq_true_eq] at h
 have h1:IntKind.min .i64 = -9223372036854775808:=by decide
 have h2:IntKind.max .i64=9223372036854775807:=by decide
 rw [h1,h2] at h;exact h
theorem uW (z:Int):flat (ii z):=fun a n c e=>by cases e
section
variable {H:Type} {enc:TypeId × Value->H} {W:World}
theorem sZ (β:Bt) {v:Value} {d:DataW H} {ps:List MemPlace} {r:Reach} {b0:Nat} (hv:Value.okWide Tryz.prog W r b0 27 v) (h:DataW.Trod enc Tryz.prog W 0 (fun _=>true) true 27 v d ps) :
  ∃ p:Src,Rel (KW W) β v (.agg (ak p))/\Small p 9223372036854775807/\im p:=by
 obtain ⟨v0,v1,v2,v3,y0,y1,y2,y3,n,rfl,_,_,h0,h1,h2,h3⟩:=Go.Joins.open_agg4 Tryz.underlying27 (by kernel_rfl) (by kernel_rfl) hv h
 have c9:Tryz.prog.cellsOf 9=1:=by kernel_rfl
 have c3:Tryz.prog.cellsOf 3=1:=by kernel_rfl
 obtain ⟨gs,g1,g2,g3⟩:=Fl Tryz.underlying22 Tryz.underlying9 c9 h0
 obtain ⟨VC,a1,a2,a3⟩:=z8 ay (fun x=>x.name.length<=9223372036854775807 /\ -9223372036854775808<=x.size/\x.size<=9223372036854775807) β Tryz.underlying23 Tryz.underlying76 (by kernel_rfl) (k:=2) (by kernel_rfl) rfl (by omega) (fun b o hf=>by
  obtain ⟨u0,z0,n0,x0,w0⟩:=hf 0 _ rfl;obtain ⟨u1,z1,n1,x1,w1⟩:=hf 1 _ rfl;obtain ⟨s,hs,_,hz⟩:=DataW.trod_string Tryz.underlying9 w0;obtain ⟨z,eL,_,Tl⟩:=DataW.trod_int Tryz.underlying3 w1
  injection hs with hs _
  injection eL with eL _
  subst hs eL;refine ⟨⟨s.data.toList,z⟩,⟨max_le hz,wf_i64 Tl⟩,rfl,fun j g hg=>?_⟩
  match j,hg with
  | 0,hg=>cases hg;rw [<-uf];exact lg x0 fun a n c e=>by cases e
  | 1,hg=>cases hg;exact lg x1 (uW z)
  | j+2,hg=>simp [ay] at hg) h1
 obtain ⟨fs,f1,f2,f3⟩:=z8 aq (fun x=>x.name.length<=9223372036854775807/\x.params.length<=9223372036854775807/\∀ s∈x.params,s.length<=9223372036854775807) β Tryz.underlying24 Tryz.underlying79 (by kernel_rfl) (k:=3) (by kernel_rfl) rfl (by omega) (fun b o hf=>by
  obtain ⟨u0,z0,n0,x0,w0⟩:=hf 0 _ rfl;obtain ⟨u1,z1,n1,x1,w1⟩:=hf 1 _ rfl;obtain ⟨u2,z2,n2,x2,w2⟩:=hf 2 _ rfl;obtain ⟨s,hs,_,hz⟩:=DataW.trod_string Tryz.underlying9 w0;obtain ⟨l,fb,ko,SV⟩:=Fl Tryz.underlying22 Tryz.underlying9 c9 w1;obtain ⟨z,eL,_,Tl⟩:=DataW.trod_int Tryz.underlying3 w2
  injection hs with hs _
  injection eL with eL _
  subst hs eL;refine ⟨⟨s.data.toList,l,z⟩,⟨max_le hz,ko,SV⟩,rfl,fun j g hg=>?_⟩
  match j,hg with
  | 0,hg=>cases hg;rw [<-uf];exact lg x0 fun a n c e=>by cases e
  | 1,hg=>cases hg;rw [Pp x1 fb,FI]
  | 2,hg=>cases hg;exact lg x2 (uW z)
  | j+3,hg=>simp [aq] at hg) h2
 obtain ⟨ns,k1,k2,k3⟩:=z8 au (fun x=>(x.s.length<=9223372036854775807/\x.kids.length<=9223372036854775807) /\ -9223372036854775808<=x.n/\x.n<=9223372036854775807) β Tryz.underlying25 Tryz.underlying81 (by kernel_rfl) (k:=5) (by kernel_rfl) rfl (by omega) (fun b o hf=>by
  obtain ⟨u0,z0,n0,x0,w0⟩:=hf 0 _ rfl;obtain ⟨u1,z1,n1,x1,w1⟩:=hf 1 _ rfl;obtain ⟨u2,z2,n2,x2,w2⟩:=hf 2 _ rfl;obtain ⟨u3,z3,n3,x3,w3⟩:=hf 3 _ rfl;obtain ⟨u4,z4,n4,x4,w4⟩:=hf 4 _ rfl;obtain ⟨i0,e0,_,_⟩:=DataW.trod_int Tryz.underlying3 w0;obtain ⟨i1,e1,_,_⟩:=DataW.trod_int Tryz.underlying3 w1;obtain ⟨i2,e2,_,q2⟩:=DataW.trod_int Tryz.underlying3 w2;obtain ⟨s,hs,_,hz⟩:=DataW.trod_string Tryz.underlying9 w3;obtain ⟨l,fb,ko⟩:=OB Tryz.underlying51 Tryz.underlying3 c3 w4
  injection e0 with e0 _
  injection e1 with e1 _
  injection e2 with e2 _
  injection hs with hs _
  subst hs e0 e1 e2;refine ⟨⟨i0,i1,i2,s.data.toList,l⟩,⟨⟨max_le hz,ko⟩,wf_i64 q2⟩,rfl,fun j g hg=>?_⟩
  match j,hg with
  | 0,hg=>cases hg;exact lg x0 (uW _)
  | 1,hg=>cases hg;exact lg x1 (uW _)
  | 2,hg=>cases hg;exact lg x2 (uW _)
  | 3,hg=>cases hg;rw [<-uf];exact lg x3 fun a n c e=>by cases e
  | 4,hg=>cases hg;rw [Pp x4 fb,N5]
  | j+5,hg=>simp [au] at hg) h3
 have r0:=My g1 β;rw [FI] at r0;refine ⟨⟨gs,VC,fs,ns⟩,?_,⟨⟨g2,g3⟩,⟨a2,fun x hx=>(a3 x hx).1⟩,⟨f2,f3⟩,⟨k2,fun x hx=>(k3 x hx).1⟩⟩,⟨fun x hx=>(a3 x hx).2,fun x hx=>(k3 x hx).2⟩⟩;have hc:aU (KW W) β [v0,v1,v2,v3] (ak ⟨gs,VC,fs,ns⟩):=.cons r0 (.cons a1 (.cons f1 (.cons k1 .nil)));exact .agg [v0,v1,v2,v3] _ hc.1 hc.2
end
end Go.Xg
namespace Go.Xg
open Go.RowKit Go.Xw Go.Proofs
open Go.Lib
theorem MN {P:Program} {W:World} {name:String} {k:IntKind} {zs:List Int} {g:Nat} {t e:TypeId} {n:Nat}
  (hg:P.globalNamed name=some g) (YZ:(P.globals[g]?).map (·.type)=some t) (ht:P.underlying t=some (.array n e)) (he:P.underlying e=some (.int k)) (Lu:P.cellsOf e=1) (Yr:P.cellsOf t=n)
  (h:VarReads P W name (tabData k zs)):TabIs P W name k zs:=by
 obtain ⟨g',t',cs,fuel,p,lj,EM,Xq,hd⟩:=h;obtain rfl:=Option.some.inj (hg.symm.trans lj);obtain rfl:=Option.some.inj (YZ.symm.trans EM);unfold TabIs;rw [Xq,<-cells_of_tab ht he Lu Yr hd]
theorem Ir {P:Program} {W:World} {name:String} {k:IntKind} {zs:List Int} {g n:Nat} (hg:P.globalNamed name=some g) (hn:zs.length=n) (h:TabIs P W name k zs):sk W g n:=by
 unfold TabIs World.var? at h;rw [hg] at h;simp only [Option.bind_some] at h
 cases hb:W.heap[g]? with
 | none=>rw [hb] at h;cases h
 | some o =>
  rw [hb] at h
  cases o with
  | cells cs E z =>
   simp only [Option.some.injEq] at h;exact ⟨cs,E,z,hb,by rw [h];simpa using hn⟩
  | _=>cases h
theorem Kh {P:Program} {W:World} {name:String} {k:IntKind} {zs:List Int} {g:Nat} (hg:P.globalNamed name=some g) (h:TabIs P W name k zs) {o:Nat} {z:Int} (ho:zs[o]?=some z):KW W g o=some (.v (.int k z)):=by
 have ao:=(List.getElem?_eq_some_iff.1 ho).1;have hc:=h.cell hg o ao;rw [List.getD_eq_getElem?_getD,ho,eY] at hc
 exact lg hc fun a n c e=>by cases e
theorem vE {W:World} (hp:VarReads Tryz.prog W "internal/strconv.uint64pow10" (tabData .u64 vt)) (hs:VarReads Tryz.prog W "strings.asciiSpace" (tabData .u8 vA)) (hW:W.ShapedOpen Tryz.prog):eW (KW W) (fun _=>.no) W:=by
 have gp:Tryz.prog.globalNamed "internal/strconv.uint64pow10" = some 1:=by kernel_rfl
 have gs:Tryz.prog.globalNamed "strings.asciiSpace" = some 2:=by kernel_rfl
 have tp:=MN gp (t:=228) (by kernel_rfl) Tryz.underlying228 (k:=.u64) (by kernel_rfl) (by kernel_rfl) (by kernel_rfl) hp;have ts:=MN gs (t:=231) (by kernel_rfl) Tryz.underlying231 (k:=.u8) (by kernel_rfl) (by kernel_rfl) (by kernel_rfl) hs;obtain ⟨m,hm⟩:=cell_of_shapedOpen_int (g:=0) (zero:=#[.int .i64 0]) (t:=3) hW (of_decide_eq_true (by kernel_rfl)) (by kernel_rfl) rfl (by kernel_rfl) (by kernel_rfl) Tryz.underlying3;rw [eY] at hm;refine ⟨⟨m,fun b o g h=>?_⟩,Ir gp (by decide) tp,Ir gs (by decide) ts,fun i b h=>by cases h⟩;unfold w8 at h;split at h
 ·rename_i hb;subst hb;split at h
  ·cases h;exact lg hm fun a n c e=>by cases e
  ·cases h
 ·split at h
  ·rename_i hb;subst hb
   cases ho:vt[o]? with
   | none=>rw [ho] at h;cases h
   | some z=>rw [ho] at h;cases h;exact Kh gp tp ho
  ·split at h
   ·rename_i hb;subst hb
    cases ho:vA[o]? with
    | none=>rw [ho] at h;cases h
    | some z=>rw [ho] at h;cases h;exact Kh gs ts ho
   ·cases h
theorem GF.calls {P:Program} {f:FuncId} {gs:List GV} {g:GV} (h:GF P f gs [] g []) {W:World} {vs:List Value} (hv:aU (KW W) (fun _=>.no) vs gs) (hT:eW (KW W) (fun _=>.no) W) :
  oa P f vs W fun v w'=>Below W.heap.size W w'/\∃ K β,Rel K β v g:=by
 have hI:Inv ⟨W,iG,KW W,fun _=>.no,0⟩ (KW W) (fun _=>.no) [] W :=
  ⟨Ext.refl W,cw.refl _,de.refl _,fun _ _=>rfl,Ur W,fun i x h=>by simp at h,fun _ _=>rfl,fun i j b h=>(by cases h),fun i b h=>(by cases h),fun b o g h=>.inl h,hT⟩
 refine (h ⟨W,iG,KW W,fun _=>.no,0⟩ (KW W) (fun _=>.no) W vs rfl hI hv).mono ?_;rintro v w' ⟨K',bO,x,aD,h1,h2,rfl,rfl⟩;exact ⟨h1.ext.below,K',bO,h2⟩
end Go.Xg
namespace Go.Xg
open Go.RowKit Go.Xw Go.Proofs
open Go.Xp (Tok Nd T)
open Go.Sp
attribute [local irreducible] GW GL GO YG GC GA aQ aR
theorem so {α:Type} {l:List α} {q:α->Bool} {k:Nat} {x:α} (hx:l[k]?=some x) (hf:(l.take k).all q=true) (hb:q x=true):(l.take (k+1)).all q=true:=by
 rw [take_add_one,hx,List.all_append,hf];simp [hb]
def idxOf (xs:List ae) (s:ae):Int:=match xs.findIdx? (fun x=>s==x) with | some i=>(i:Int) | none => -1
theorem Qr (xs:List ae) (s:ae) (hl:xs.length<=1099511627776):GF Tryz.prog 76 [strs xs,.v (sv s)] [] (.v (ii (idxOf xs s))) []:=by
 refine ah Tryz.func76 Tryz.ntmps76 ?_;refine GW.range (xs.map fun s=>[GV.v (sv s)]).length (fun k fr Γ=>fr=[strs xs,.v (sv s),.any,.any,.any,.any,strs xs,.v (ii ((xs.map fun s=>[GV.v (sv s)]).length:Int)),.v (ii (k:Nat)),.any,.any,.any,.any,.any,.any,.any,.any,.any,.any]/\Γ=[]/\((xs.take k).all fun x=>!(s==x))=true) ?_ (by simpa using hl) ?_ ?_ ?_
 ·exact ⟨_,_,Wk.av aj,rfl,rfl,rfl⟩
 ·rintro k _ _ ⟨rfl,rfl,_⟩;exact ⟨rfl,rfl,rfl⟩
 ·rintro k _ _ ao ⟨rfl,rfl,hc⟩
  have ao:k < xs.length:=by simpa using ao
  have hx:xs[k]?=some xs[k]:=by simp [ao]
  have hr:(xs.map fun s=>[GV.v (sv s)])[k]?=some [.v (sv xs[k])]:=by simp [ao]
  cases hb:(s==xs[k]) with
  | true =>
   have hi:xs.findIdx? (fun x=>s==x)=some k:=by
    rw [List.findIdx?_eq_some_iff_getElem];refine ⟨ao,hb,fun j hj=>?_⟩;rw [List.all_eq_true] at hc;have:=hc xs[j] (by rw [List.mem_take_iff_getElem];exact ⟨j,by omega,rfl⟩);simpa using this
   unfold idxOf;rw [hi];generalize xs[k]=x at *;exact ar
  | false =>
   have qL:=so (q:=fun x=>!(s==x)) hx hc (by rw [hb];rfl);generalize xs[k]=x at *;refine ab ?_;exact ⟨rfl,rfl,_,_,Wk.av aj,rfl,rfl,qL⟩
 ·rintro _ _ ⟨rfl,rfl,hc⟩;rw [take_of_length_le (by simp)] at hc
  have hi:xs.findIdx? (fun x=>s==x)=none:=by
   rw [List.findIdx?_eq_none_iff];intro x hx;rw [List.all_eq_true] at hc;have:=hc x hx;simpa using this
  unfold idxOf;rw [hi];exact ar
theorem N2 (xs:List ae) (s:ae):decide (0<=idxOf xs s)=xs.contains s:=by
 unfold idxOf
 cases h:xs.findIdx? (fun x=>s==x) with
 | some i =>
  rw [List.findIdx?_eq_some_iff_getElem] at h;obtain ⟨h1,h2,_⟩:=h
  have h3:s=xs[i]:=by simpa using h2
  have:xs.contains s=true:=by rw [List.contains_iff_mem,h3];exact getElem_mem _
  rw [this];simp
 | none =>
  rw [List.findIdx?_eq_none_iff] at h
  have:xs.contains s=false:=by
   cases hc:xs.contains s with
   | false=>rfl
   | true=>have:=h s (List.contains_iff_mem.1 hc);simp at this
  rw [this];rfl
theorem gz (xs:List ae) (s:ae) (hl:xs.length<=1099511627776):GF Tryz.prog 47 [strs xs,.v (sv s)] [] (.v (.bool (xs.contains s))) []:=by
 have hi:=Qr xs s hl;rw [<-N2];generalize idxOf xs s=i at *;refine ah Tryz.func47 Tryz.ntmps47 ?_;refine U [] (hi) ?_;exact al
end Go.Xg
set_option maxHeartbeats 2000000
namespace Go.Xg
open Go.RowKit Go.Xw Go.Proofs
open Go.Xp (Nd T Ar)
open Go.Sp (Src)
open Go.Im
attribute [local irreducible] GW GL GO YG GC GA aQ aR
theorem LZ (s:ae):GF Tryz.prog 94 [.v (sv s)] [] (.v (.bool (lT s))) []:=by
 unfold lT oB pE dc
 cases h1:(s==[103,101,116])
 all_goals cases h2:(s==[112,117,116])
 all_goals
  refine ah Tryz.func94 Tryz.ntmps94 ?_;exact al
theorem DO {oN:FuncId} [az Tryz.prog oN] (pr:Go.Sp.Fn->Bool) (l:List (Go.Sp.Fn)) (hn:l.length<=1099511627776) (hc:∀ x∈l,GF Tryz.prog oN [.agg (aq x)] [] (.v (.bool (pr x))) []) :
  GF Tryz.prog 122 [.sl 3 (l.map aq),.v (.func (.func oN) #[] #[])] [] (.v (ii (cB pr l))) []:=by
 have dw:(l.map aq).length=l.length:=by simp
 refine ah Tryz.func122 Tryz.ntmps122 ?_;refine GW.range (l.map aq).length (fun k fr Γ=>fr=[.sl 3 (l.map aq),.v (.func (.func oN) #[] #[]),.any,.any,.any,.any,.any,.v (ii ((l.map aq).length:Int)),.v (ii (k:Nat)),.any,.any,.any,.any,.any,.any,.any,.any,.any,.any]/\Γ=[]/\(l.take k).all (fun y=>!pr y)=true) ?_ (by omega) ?_ ?_ ?_
 ·exact ⟨_,_,Wk.av aj,rfl,rfl,rfl⟩
 ·rintro k _ _ ⟨rfl,rfl,_⟩;exact ⟨rfl,rfl,rfl⟩
 ·rintro k _ _ ao ⟨rfl,rfl,aK⟩;rw [dw] at ao;obtain ⟨x,cH⟩:∃ x,l[k]?=some x:=⟨l[k],by simp [ao]⟩
  have hr:(l.map aq)[k]?=some (aq x):=by rw [getElem?_map,cH];rfl
  have h:=hc x (mem_of_getElem? cH);have bm:=lN (f:=pr) cH
  have hit:=fun h0=>lR (f:=pr) cH h0 aK
  unfold aq at hr h
  cases hb:pr x with
  | true =>
   rw [hb] at h;rw [hit hb];refine ab ?_;refine iw [] (h) ?_;exact ar
  | false =>
   rw [hb] at h bm;refine ab ?_;refine iw [] (h) ?_;refine ab ?_;exact ⟨rfl,rfl,_,_,Wk.av aj,rfl,rfl,by rw [bm,aK];rfl⟩
 ·rintro _ _ ⟨rfl,rfl,aK⟩;rw [dw,take_length] at aK;rw [jq aK];exact ar
theorem tC {oN:FuncId} [az Tryz.prog oN] (pr:Go.Sp.Fn->Bool) (l:List (Go.Sp.Fn)) (hn:l.length<=1099511627776) (hc:∀ x∈l,GF Tryz.prog oN [.agg (aq x)] [] (.v (.bool (pr x))) []) :
  GF Tryz.prog 96 [.sl 3 (l.map aq),.v (.func (.func oN) #[] #[])] [] (.v (.bool (l.any pr))) []:=by
 have h:=DO pr l hn hc;rw [<-CK];generalize cB pr l=z at *;refine ah Tryz.func96 Tryz.ntmps96 ?_;refine U [] (h) ?_;exact al
theorem Dt {oN:FuncId} [az Tryz.prog oN] (pr:Go.Sp.Fn->Bool) (s:ae) (l:List (Go.Sp.Fn)) (hn:l.length<=1099511627776) (hc:∀ x∈l,GF Tryz.prog oN [.agg (aq x),.box [.v (sv s)] 0] [] (.v (.bool (pr x))) []) :
  GF Tryz.prog 122 [.sl 3 (l.map aq),.fn (.func oN) [] [.box [.v (sv s)] 0]] [] (.v (ii (cB pr l))) []:=by
 have dw:(l.map aq).length=l.length:=by simp
 refine ah Tryz.func122 Tryz.ntmps122 ?_;refine GW.range (l.map aq).length (fun k fr Γ=>fr=[.sl 3 (l.map aq),.fn (.func oN) [] [.box [.v (sv s)] 0],.any,.any,.any,.any,.any,.v (ii ((l.map aq).length:Int)),.v (ii (k:Nat)),.any,.any,.any,.any,.any,.any,.any,.any,.any,.any]/\Γ=[]/\(l.take k).all (fun y=>!pr y)=true) ?_ (by omega) ?_ ?_ ?_
 ·exact ⟨_,_,Wk.av aj,rfl,rfl,rfl⟩
 ·rintro k _ _ ⟨rfl,rfl,_⟩;exact ⟨rfl,rfl,rfl⟩
 ·rintro k _ _ ao ⟨rfl,rfl,aK⟩;rw [dw] at ao;obtain ⟨x,cH⟩:∃ x,l[k]?=some x:=⟨l[k],by simp [ao]⟩
  have hr:(l.map aq)[k]?=some (aq x):=by rw [getElem?_map,cH];rfl
  have h:=hc x (mem_of_getElem? cH);have bm:=lN (f:=pr) cH
  have hit:=fun h0=>lR (f:=pr) cH h0 aK
  unfold aq at hr h
  cases hb:pr x with
  | true =>
   rw [hb] at h;rw [hit hb];refine ab ?_;refine nB [] (h) ?_;exact ar
  | false =>
   rw [hb] at h bm;refine ab ?_;refine nB [] (h) ?_;refine ab ?_;exact ⟨rfl,rfl,_,_,Wk.av aj,rfl,rfl,by rw [bm,aK];rfl⟩
 ·rintro _ _ ⟨rfl,rfl,aK⟩;rw [dw,take_length] at aK;rw [jq aK];exact ar
theorem Ds {oN:FuncId} [az Tryz.prog oN] (pr:Ar->Bool) (s:ae) (l:List (Ar)) (hn:l.length<=1099511627776) (hc:∀ x∈l,GF Tryz.prog oN [.agg (ay x),.box [.v (sv s)] 0] [] (.v (.bool (pr x))) []) :
  GF Tryz.prog 73 [.sl 2 (l.map ay),.fn (.func oN) [] [.box [.v (sv s)] 0]] [] (.v (ii (cB pr l))) []:=by
 have dw:(l.map ay).length=l.length:=by simp
 refine ah Tryz.func73 Tryz.ntmps73 ?_;refine GW.range (l.map ay).length (fun k fr Γ=>fr=[.sl 2 (l.map ay),.fn (.func oN) [] [.box [.v (sv s)] 0],.any,.any,.any,.any,.any,.v (ii ((l.map ay).length:Int)),.v (ii (k:Nat)),.any,.any,.any,.any,.any,.any,.any,.any,.any,.any]/\Γ=[]/\(l.take k).all (fun y=>!pr y)=true) ?_ (by omega) ?_ ?_ ?_
 ·exact ⟨_,_,Wk.av aj,rfl,rfl,rfl⟩
 ·rintro k _ _ ⟨rfl,rfl,_⟩;exact ⟨rfl,rfl,rfl⟩
 ·rintro k _ _ ao ⟨rfl,rfl,aK⟩;rw [dw] at ao;obtain ⟨x,cH⟩:∃ x,l[k]?=some x:=⟨l[k],by simp [ao]⟩
  have hr:(l.map ay)[k]?=some (ay x):=by rw [getElem?_map,cH];rfl
  have h:=hc x (mem_of_getElem? cH);have bm:=lN (f:=pr) cH
  have hit:=fun h0=>lR (f:=pr) cH h0 aK
  unfold ay at hr h
  cases hb:pr x with
  | true =>
   rw [hb] at h;rw [hit hb];refine ab ?_;refine nB [] (h) ?_;exact ar
  | false =>
   rw [hb] at h bm;refine ab ?_;refine nB [] (h) ?_;refine ab ?_;exact ⟨rfl,rfl,_,_,Wk.av aj,rfl,rfl,by rw [bm,aK];rfl⟩
 ·rintro _ _ ⟨rfl,rfl,aK⟩;rw [dw,take_length] at aK;rw [jq aK];exact ar
theorem QP (x:Go.Sp.Fn) (s:ae):GF Tryz.prog 231 [.agg (aq x),.box [.v (sv s)] 0] [] (.v (.bool (x.name==s))) []:=by
 unfold aq;refine ah Tryz.func231 Tryz.ntmps231 ?_;exact al
theorem Sh (p:Src) (s:ae) (hn:p.fns.length<=1099511627776):GF Tryz.prog 214 [.agg (ak p),.v (sv s)] [] (.v (ii (cB (fun x:Go.Sp.Fn=>x.name==s) p.fns))) []:=by
 have h:=Dt (fun x:Go.Sp.Fn=>x.name==s) s p.fns hn (fun x _=>QP x s);generalize cB (fun x:Go.Sp.Fn=>x.name==s) p.fns=z at *;refine cM Tryz.func214 Tryz.ntmps214 ?_;refine gP ?_;refine GL.wk (Wk.freeze (i:=1) rfl rfl rfl (Nat.zero_le _)) ?_;refine GN (by simp only [mx,lS];rfl) ?_;refine ab ?_;refine U [] (h) ?_;exact al
theorem IU (x:Ar) (s:ae):GF Tryz.prog 74 [.agg (ay x),.box [.v (sv s)] 0] [] (.v (.bool (x.name==s))) []:=by
 unfold ay;refine ah Tryz.func74 Tryz.ntmps74 ?_;exact al
theorem w9 (p:Src) (s:ae) (hn:p.arrays.length<=1099511627776):GF Tryz.prog 44 [.agg (ak p),.v (sv s)] [] (.v (ii (cB (fun x:Ar=>x.name==s) p.arrays))) []:=by
 have h:=Ds (fun x:Ar=>x.name==s) s p.arrays hn (fun x _=>IU x s);generalize cB (fun x:Ar=>x.name==s) p.arrays=z at *;refine cM Tryz.func44 Tryz.ntmps44 ?_;refine gP ?_;refine GL.wk (Wk.freeze (i:=1) rfl rfl rfl (Nat.zero_le _)) ?_;refine GN (by simp only [mx,lS];rfl) ?_;refine ab ?_;refine U [] (h) ?_;exact al
theorem J3 (x:Go.Sp.Fn):GF Tryz.prog 121 [.agg (aq x)] [] (.v (.bool (decide (x.params.length > 40)))) []:=by
 have h:decide ((40:Int) < ((x.params.map fun s=>[GV.v (sv s)]).length:Int))=decide (x.params.length > 40):=by
  rw [length_map];exact decide_eq_decide.2 (by omega)
 rw [<-h];unfold aq strs;refine ah Tryz.func121 Tryz.ntmps121 ?_;exact al
theorem Nc (x:Go.Sp.Fn):GF Tryz.prog 97 [.agg (aq x)] [] (.v (.bool (mf x))) []:=by
 have h:(((x.params.map fun s=>[GV.v (sv s)]).length:Int)==0)=(x.params.length==0):=by
  rw [length_map];exact Bool.eq_iff_iff.2 (by simp)
 unfold mf vf;rw [<-h];unfold aq strs
 cases h1:(x.name==[109,97,105,110])
 all_goals
  refine ah Tryz.func97 Tryz.ntmps97 ?_;exact al
end Go.Xg
namespace Go.Xg
open Go.RowKit Go.Xw
theorem nL (n:Int):bits .and .i64 n 4294967295=n % 4294967296:=by
 have h:(BitVec.ofInt 64 4294967295).toNat=2 ^ 32 - 1:=by decide
 have key:(BitVec.ofInt 64 n &&& BitVec.ofInt 64 4294967295).toNat=(n % ((2 ^ 64:Nat):Int)).toNat % 2 ^ 32:=by
  rw [BitVec.toNat_and,BitVec.toNat_ofInt,h,Nat.and_two_pow_sub_one_eq_mod]
 show IntKind.i64.wrap ((BitVec.ofInt 64 n &&& BitVec.ofInt 64 4294967295).toNat:Nat)=n % 4294967296;rw [key,IntKind.wrap_i64];omega
section
variable {P:Program} {fr:List GV} {Γ:List Ob}
theorem YG.nL {x y:Operand} {t t':TypeId} {a:Int} (hx:aM fr x=.v (ii a)) (hy:aM fr y=.v (ii 4294967295)):YG P (.binOp .and t x y t') fr Γ (.v (ii (a % 4294967296))) :=
 YG.v2 hx hy fun l w h k d ty pos af=>by
  simp [execOp,eqGuard,h,k,binOp,intBits_and,Go.Xg.nL]
end
end Go.Xg
namespace Go.Xw
open Go.RowKit
class Cz (P:Program) (t:TypeId) (e:outParam TypeId):Prop where
 is:P.underlying t=some (.slice e)/\∃ i,P.info? e=some i/\i.zero=some (.int .u8 0)/\i.size=1/\i.bytes=1
def Pt (P:Program) (t e:TypeId):Bool :=
 (match P.underlying t with | some (.slice e')=>e'==e | _=>false)&&(match P.info? e with | some i=>(match i.zero with | some (.int .u8 0)=>true | _=>false)&&i.size==1&&i.bytes==1 | none=>false)
theorem Cz.mk' {P:Program} {t e:TypeId} (h:Pt P t e=true):Cz P t e:=by
 unfold Pt at h;rw [Bool.and_eq_true] at h;obtain ⟨h1,h2⟩:=h;refine ⟨?_,?_⟩
 ·split at h1
  ·rename_i e' hu;rw [hu];simp at h1;rw [h1]
  ·cases h1
 ·split at h2
  ·rename_i i hi;simp only [Bool.and_eq_true,beq_iff_eq] at h2;obtain ⟨⟨h4,h5⟩,h6⟩:=h2;split at h4
   ·rename_i hz;exact ⟨i,hi,hz,h5,h6⟩
   ·cases h4
  ·cases h2
section
variable {P:Program} {Q:lh} {l:List Value} {w:World} {ops:Array Oper} {rest:List Oper} {d:Option Tmp} {ty:TypeId} {pos:String} {af:Array Edge}
def kh (s:ae):List Value:=s.map fun c=>.int .u8 (c.toNat:Int)
theorem WL.BA {s x:Operand} {t u e:Nat} [hT:Cz P t e] [hU:o8 P u] {base n:Nat} {xs:List Value} {v:Value} {str:ae} (hs:ev l s=v) (gw:gQ w base e 1 v n xs) (hx:ev l x=sv str)
  (xt:n+str.length<=140737488355328) (AK:base<=w.heap.size)
  (h:∀ v' w',gQ w' base e 1 v' (n+str.length) (xs++kh str)->Ext (fun b=>v.ownBlock=some b) w w'->(∀ b,v'.ownBlock=some b->v.ownBlock=some b\/w.heap.size<=b)->(Ext iG w w'\/v'.ownBlock=v.ownBlock)->WL P ops Q rest (put l d v') w') :
  WL P ops Q (⟨d,.call ⟨.builtin .append,#[s,x],#[t,u]⟩,ty,pos,af,none⟩::rest) l w:=by
 obtain ⟨hu,i,hi,hz,b6,xr⟩:=hT.is;have fx:=hU.und
 have qb:(⟨str.toArray⟩:ByteArray).size=str.length:=by simp [ByteArray.size]
 have fG:Lib.strCells ⟨str.toArray⟩=kh str:=by simp [Lib.strCells,kh]
 obtain ⟨v',w',hr,h2,h3,h4⟩:=Lib.run_append_own_string (P:=P) w base t u ty e i hu fx hi hz b6 xr v n xs gw ⟨str.toArray⟩ (by rw [qb];simp only [maxLen];omega) (by rw [qb];omega) AK;rw [qb,fG] at h2;rw [qb] at h4;have gC:Ext (fun b=>v.ownBlock=some b) w w':=⟨h3.os,h3.tape,h3.output,h3.size,fun j hj hn=>h3.block j hj fun he=>hn he.symm⟩;have mz:(Builtin.append_ #[t,u] ty #[v,sv str]).run P w=.ok v' w':=hr;refine WL.val (v:=v') (w':=w') (by simp [execOp,resolve,invoke,builtin,hs,hx,mz]) (h v' w' h2 gC ?_ ?_)
 ·intro b' aY
  rcases gw.2 with ⟨rfl,rfl⟩ | ⟨g,cap,cur,rfl,og,hg,p7,y7,fG,AZ⟩
  ·by_cases hm:str.length=0
   ·have:=h4.2 ⟨rfl,hm⟩;subst this;cases aY
   ·have dj:=run_append_nil_string (P:=P) w t u ty e i (.int .u8 0) hu fx hi hz ⟨str.toArray⟩ (by omega) (by rw [qb];omega) (by rw [xr,qb];omega);rw [hr] at dj;cases dj;simp only [Value.ownBlock,Option.some.injEq] at aY;exact .inr (by omega)
  ·by_cases hroom:n+str.length<=cap
   ·have SK:cur.size=cap:=by simpa using fG
    have dj:=Lib.run_append_room_string (P:=P) w t u ty e i hu fx hi b6 g n cap cur hg ⟨str.toArray⟩ (by rw [qb];exact hroom) (by rw [qb];omega);rw [hr] at dj;cases dj;exact .inl aY
   ·have holds:∀ j u,xs[j]?=some u->w.cell? ((⟨g,0,none⟩:Addr).add j)=some u:=World.ownsRow.cells (g:=g) gw rfl;have dj:=Lib.run_append_grow_string (P:=P) w t u ty e i (.int .u8 0) hu fx hi hz ⟨g,0,none⟩ n cap xs (by rw [b6];exact gw.1) holds ⟨str.toArray⟩ (by rw [qb];omega) (by rw [qb];omega) (by rw [xr,qb];exact growslice_fits (by omega) (by omega));rw [hr] at dj;cases dj;simp only [Value.ownBlock,Option.some.injEq] at aY;exact .inr (by omega)
 ·rcases gw.2 with ⟨rfl,rfl⟩ | ⟨g,cap,cur,rfl,og,hg,p7,y7,fG,AZ⟩
  ·exact .inl (gC.mono fun k _ hk=>by cases hk)
  ·by_cases hroom:n+str.length<=cap
   ·have SK:cur.size=cap:=by simpa using fG
    have dj:=Lib.run_append_room_string (P:=P) w t u ty e i hu fx hi b6 g n cap cur hg ⟨str.toArray⟩ (by rw [qb];exact hroom) (by rw [qb];omega);rw [hr] at dj;cases dj;exact .inr rfl
   ·have holds:∀ j u,xs[j]?=some u->w.cell? ((⟨g,0,none⟩:Addr).add j)=some u:=World.ownsRow.cells (g:=g) gw rfl;have dj:=Lib.run_append_grow_string (P:=P) w t u ty e i (.int .u8 0) hu fx hi hz ⟨g,0,none⟩ n cap xs (by rw [b6];exact gw.1) holds ⟨str.toArray⟩ (by rw [qb];omega) (by rw [qb];omega) (by rw [xr,qb];exact growslice_fits (by omega) (by omega));rw [hr] at dj;cases dj;exact .inl ⟨rfl,rfl,rfl,by simp,fun k hk _=>Below.heap_alloc _ _ _ (by simpa using hk)⟩
theorem R.qk {x:Operand} {s:TypeId} {i off:Nat} [hT:dn P s i off 1 false] {vs:List Value} {v:Value} (hx:ev l x=.agg vs.toArray) (hv:vs[off]?=some v):eh P l w (.field s x i) v:=fun d ty pos af=>by
 obtain ⟨hT⟩:=hT;unfold I5 at hT;split at hT
 ·rename_i fs hu;split at hT
  ·rename_i f hf;simp only [Bool.and_eq_true,beq_iff_eq,bne_iff_ne,ne_eq] at hT;obtain ⟨⟨⟨h1,h2⟩,h3⟩,h4⟩:=hT
   have Yp:(isAgg f.type).run P w=.ok false w:=by
    cases hd:P.underlying f.type with
    | none=>simp [hd] at h4
    | some d =>
     rw [hd] at h4;unfold isAgg;rw [Sem.run_bind,run_underlying hd w]
     cases d <;> simp_all [x9]
   have A0:vs.toArray[f.offset]?=some v:=by rw [h1];simpa using hv
   have Y1:vs[f.offset]?=some v:=by rw [h1];exact hv
   simp [execOp,Instr.field,hx,run_underlying hu,hf,part,asAgg,Yp,A0,Y1]
  ·cases hT
 ·cases hT
end
end Go.Xw
namespace Go.Xg
open Go.RowKit Go.Xw
section
variable {P:Program} {m:Nat} {Q:dR} {fr:List GV} {Γ:List Ob} {ops:Array Oper} {rest:List Oper} {d:Option Tmp} {op:Op} {ty:TypeId} {pos:String} {af:Array Edge}
theorem YG.qk {x:Operand} {s:TypeId} {i off:Nat} [hT:dn P s i off 1 false] {cs:List GV} {g:GV} (hx:aM fr x=.agg cs) (hg:cs[off]?=some g):YG P (.field s x i) fr Γ g:=fun B K β w l hI hF=>by
 have h:=hF.ev x;rw [hx] at h;generalize hv:ev l x=v at h
 cases h with
 | agg vs _ hl h =>
  have hi:off < vs.length:=by rw [hl];exact (List.getElem?_eq_some_iff.1 hg).1
  exact ⟨vs[off],R.qk hv (by simp [hi]),h off _ g (by simp [hi]) hg⟩
abbrev bY (s:ae):List (List GV):=s.map fun c=>[.v (.int .u8 (c.toNat:Int))]
theorem GL.BA {s x:Operand} {t u e:Nat} [hT:Cz P t e] [hU:o8 P u] {i n fz:Nat} {rows:List (List GV)} {str:ae} (hx:aM fr x=.v (sv str)) (hs:aM fr s=.vec i n) (br:Γ[i]?=some (.vec e 1 fz rows)) (hn:rows.length=n) (bN:str.isEmpty=false)
  (hb:n+str.length<=140737488355328)
  (h:GL P m ops Q rest (bf fr d (.vec i (n+str.length))) (oset Γ i (.vec e 1 fz (rows++bY str)))) :
  GL P m ops Q (⟨d,.call ⟨.builtin .append,#[s,x],#[t,u]⟩,ty,pos,af,none⟩::rest) fr Γ:=fun B K β w l hm hI hF=>by
 subst hn
 have bN:str≠[]:=by intro h0;rw [h0] at bN;cases bN
 obtain ⟨h0,xs,o1,o2,o3,o4,o5,o6⟩:=hI.ob i _ br;have sK:=hF.ev s;rw [hs] at sK
 have qc:ev l s=h0:=by
  generalize hv:ev l s=v at sK
  cases sK with
  | vec _ _ a c hh =>
   obtain ⟨h',m',e1,e2,e3⟩:=hh;rw [o1] at e1;cases e1;exact e3 rfl
 have gV:(bY str).flatten=str.map fun c=>GV.v (.int .u8 (c.toNat:Int)):=by
  unfold bY;clear hx bN hb h;generalize str=s
  induction s with
  | nil=>rfl
  | cons c r ih=>simp only [List.map_cons,flatten_cons,ih];rfl
 have hlen:(bY str).length=str.length:=by simp [bY]
 refine WL.BA (base:=0) (v:=h0) (n:=rows.length) (xs:=xs) (str:=str) qc o2 (hF.gU hx) hb (Nat.zero_le _) ?_;intro v' w' how gC tQ vb
 obtain ⟨K',hK,qd,bc⟩:=hI.grow br o1 ⟨o2,o3⟩ (news:=bY str) (ns:=kh str) (by rw [hlen];exact how) gC tQ (by rw [gV];exact (by
   have:(str.map fun c=>GV.v (.int .u8 (c.toNat:Int)))=ji (kh str):=by simp [ji,kh]
   rw [this];exact aU.self)) (fun r hr=>by
   simp only [bY,mem_map] at hr;obtain ⟨c,_,rfl⟩:=hr
   exact ⟨rfl,fun g hg=>by rw [List.mem_singleton] at hg;subst hg;rfl⟩) (by intro h0;exact bN (List.map_eq_nil_iff.1 h0)) (fun b aY o v ho hv=>by
  rcases vb with h7 | h7
  ·exact h7.c hv (fun h=>h)
  ·have ig:o < xs.length:=by rw [o2.1];exact Nat.lt_of_lt_of_le ho (Nat.mul_le_mul_right 1 o6)
   obtain ⟨b2,c2,oQ,_,_,jB⟩:=o2.cells.2 (by intro h0;rw [h0] at ig;simp at ig)
   have eG:b2=b:=by rw [oQ] at aY;cases aY;rfl
   subst eG;have CY:=jB o xs[o] (by simp [ig]);rw [eY,hv] at CY;cases CY;obtain ⟨b3,c3,Lx,_,_,Lt⟩:=how.cells.2 (by intro h0;have:xs=[]:=(List.append_eq_nil_iff.1 h0).1;rw [this] at ig;simp at ig)
   have xp:b3=b2:=by rw [Lx,aY] at h7;cases h7;rfl
   subst xp
   rw [<-eY];exact Lt o _ (by rw [getElem?_append_left ig];simp [ig]))
 rw [<-aV] at bc;refine h B K' _ w' _ hm bc ((hF.mono hK qd).put d ?_);obtain ⟨a,c,rfl⟩:=how.shape;exact .vec i _ a c ⟨_,_,bh,by simp [hlen],fun _=>by simp [hlen]⟩
end
theorem GF.Tx {P:Program} {f:FuncId} {vs:List Value} {v:Value} (h:∀ K β w,eW K β w->jj K w->oa P f vs w fun x w'=>x=v/\Ext iG w w'):GF P f (vs.map GV.v) [] (.v v) []:=fun B K β w us hm hI hF=>by
 have hv:us=vs:=by
  obtain ⟨h1,h2⟩:=hF;apply ext_getElem
  ·simpa using h1
  ·intro i h3 h4;have:=h2 i us[i] (.v vs[i]) (by simp [h3]) (by simp [h4]);exact Rel.eg this
 subst hv
 exact (h K β w hI.tab hI.fz).mono fun x w' ⟨h1,h2⟩=>⟨K,β,.v v,[],hI.same h2,by rw [h1];exact .v _,rfl,rfl⟩
theorem eW.cell {K:Fz} {β:Bt} {w:World} (h:eW K β w) (hf:jj K w) {b o:Nat} {x:Value} (hk:∀ m,w8 m b o=some (.v x)):fF w.heap b o=some x:=by
 obtain ⟨m,h⟩:=h.le;obtain ⟨_,v,hv,hr⟩:=hf b o _ (h b o _ (hk m));rw [hv,Rel.eg hr]
theorem eW.maxLen {K:Fz} {β:Bt} {w:World} (h:eW K β w) (hf:jj K w):∃ m,w.cell? ⟨0,0,none⟩=some (.int .i64 m):=by
 obtain ⟨m,h⟩:=h.le
 have hk:w8 m 0 0=some (.v (.int .i64 m)):=by simp [w8]
 obtain ⟨_,v,hv,hr⟩:=hf _ _ _ (h _ _ _ hk);exact ⟨m,by rw [eY,hv,Rel.eg hr]⟩
theorem sk.all {K:Fz} {β:Bt} {w:World} (h:eW K β w) (hf:jj K w) {b n:Nat} {zs:List Value} (hb:sk w b n) (hn:zs.length=n) (hk:∀ m o x,zs[o]?=some x->w8 m b o=some (.v x)):∃ E z,w.heap[b]?=some (.cells zs.toArray E z):=by
 obtain ⟨cs,E,z,h1,h2⟩:=hb;refine ⟨E,z,?_⟩
 have:cs=zs.toArray:=by
  apply Array.ext
  ·simp [h2,hn]
  ·intro i hi om
   have hx:zs[i]?=some zs.toArray[i]:=by simp
   have h3:=h.cell hf (b:=b) (o:=i) (fun m=>hk m i _ hx)
   have h4:fF w.heap b i=cs[i]?:=by rw [<-eY,cell_of_row w b i cs E z h1]
   rw [h4] at h3;simpa [hi] using h3
 rw [h1,this]
theorem GF.Xz {P:Program} {f:FuncId} {vs us:List Value} {E:TypeId} (h:∀ K β w,eW K β w->jj K w->oa P f vs w fun x w'=>x=.slice (some ⟨w.heap.size,0,none⟩) us.length us.length/\w'=w.alloc (.cells us.toArray E)):GF P f (vs.map GV.v) [] (.sl 1 (us.map fun u=>[.v u])) []:=fun B K β w ws hm hI hF=>by
 have hv:ws=vs:=by
  obtain ⟨h1,h2⟩:=hF;apply ext_getElem
  ·simpa using h1
  ·intro i h3 h4;have:=h2 i ws[i] (.v vs[i]) (by simp [h3]) (by simp [h4]);exact Rel.eg this
 subst hv
 refine (h K β w hI.tab hI.fz).mono fun x w' ⟨h1,h2⟩=>?_
 subst h1;subst h2;have hn:=uG.of w (.cells us.toArray E);obtain ⟨hle,bc⟩:=hI.tM hn (cs:=us.map .v) aU.self (fun g hg=>by obtain ⟨u,_,rfl⟩:=List.mem_map.1 hg;rfl);refine ⟨_,β,.sl 1 (us.map fun u=>[.v u]),[],bc,?_,rfl,rfl⟩;have:=Rel.sl (K:=kF K w.heap.size (us.map .v)) (β:=β) w.heap.size 0 us.length 1 (us.map fun u=>[.v u]) (fun i r hr=>?_) (by simp)
 ·rw [length_map] at this;exact this
 ·rw [getElem?_map] at hr
  cases hu:us[i]? with
  | none=>rw [hu] at hr;cases hr
  | some u =>
   rw [hu] at hr;cases hr;refine ⟨rfl,fun j g hg=>?_⟩
   cases j with
   | zero=>cases hg;rw [Nat.zero_add,Nat.mul_one,Nat.add_zero];exact uI (by rw [getElem?_map,hu];rfl)
   | succ j=>simp at hg
end Go.Xg
