/- Part 5 of proofs that are told in their last texts. -/
import Derived.Test.YtbfmholmeiegoaaGreatDoorQ4
import Derived.IntWalk
import Derived.Laws.IdiomStrings
import Derived.Test.YtbfmholmeiegoaaGreatDoorProg
import Derived.KernelRfl
import Derived.Test.YtbfmholmeiegoaaGreatDoorQ1
import Derived.Test.YtbfmholmeiegoaaGreatDoorQ2
import Derived.Deep.Slices
import Derived.Deep.Fields
import Derived.ChangeSame
import Derived.Lib.SmallJoins
import Derived.SliceStrings
import Derived.ChangeSlices
import Derived.Lib.LaidU8
import Derived.Shelf.Vars
import Derived.Laws.Bits128
import Derived.Lib.AppendStr
import Derived.Laws.OwnMore
open List (cons_append ext_getElem flatten_cons getElem?_eq_getElem getElem?_map getElem_mem length_append length_cons length_map length_nil map_map mem_cons_self sum_cons toList_toArray)
set_option linter.unusedVariables false
set_option linter.unusedSimpArgs false
set_option maxRecDepth 100000
namespace Go.Xg
open Go.RowKit Go.Xw
section
variable {P:Program} {m:Nat} {Q:du} {fr:List GV} {F:List Ob} {ops:Array Oper} {rest:List Oper} {d:Option Tmp} {op:Op} {ty:TypeId} {pos:String} {af:Array Edge}
theorem GW.join {c y:Code} (K:List GV->List Ob->Prop) (L:GW P m c (be (Bd m K) Q) fr F) (I:∀ fr F,K fr F->GW P m y Q fr F):GW P m c (be (GW P m y Q) Q) fr F:=by
 refine L.mono fun e fr F hq=>?_
 cases e with
 | normal=>obtain ⟨cJ,aO,hw,hk⟩:=hq;exact GW.wk hw (I _ _ hk)
 | _=>exact hq
theorem YG.nD {x y:Operand} {t e:TypeId} {k:Nat} [hT:nX P t e k] {rows:List (List GV)} {kk:IntKind} {n:Int} {i:Nat} {r:List GV} (hx:ba fr x=.sl k rows) (hy:ba fr y=.v (.int kk n)) (hr:rows[i]?=some r) (hi:n=(i:Int)):YG P (.indexAddr t x y) fr F (.box r 0):=by
 subst hi;exact YG.xc hx hy hr
def ig:List (List GV)->Bool
 | []=>true
 | r::rs=>ml r&&ig rs
theorem B5 {rows:List (List GV)} (h:ig rows=true):ml rows.flatten=true:=by
 induction rows with
 | nil=>rfl
 | cons r rs ih =>
  simp only [ig,aH] at h
  have YL:∀ (a b:List GV),ml a=true->ml b=true->ml (a++b)=true:=by
   intro a
   induction a with
   | nil=>intro b _ hb;exact hb
   | cons x a yI =>
    intro b ha hb;simp only [ml,aH] at ha;simp only [cons_append,ml,aH];exact ⟨ha.1,yI b ha.2 hb⟩
  rw [flatten_cons];exact YL _ _ h.1 (ih h.2)
theorem GL.app {s x:Operand} {t e k gS:Nat} [hT:oZ P t e k gS] {i n fz:Nat} {rows news:List (List GV)} (hx:ba fr x=.sl k news) (hs:ba fr s=.vec i n) (bG:F[i]?=some (.vec e k fz rows)) (hn:rows.length=n) (L:ig news=true) (cr:news.isEmpty=false)
  (hb:n+news.length<=9223372036854775807/\(n+news.length) * gS<=140737488355328)
  (h:GL P m ops Q rest (bx fr d (.vec i (n+news.length))) (oset F i (.vec e k fz (rows++news)))) :
  GL P m ops Q (⟨d,.call ⟨.builtin .append,#[s,x],#[t,t]⟩,ty,pos,af,none⟩::rest) fr F:=fun B K β w l hm hI hF=>by
 subst hn
 have cr:news≠[]:=by intro h0;rw [h0] at cr;cases cr
 obtain ⟨h0,xs,o1,o2,o3,o4,o5,o6⟩:=hI.ob i _ bG;have uh:=hF.ev s;rw [hs] at uh
 have rl:ev l s=h0:=by
  generalize hv:ev l s=v at uh
  cases uh with
  | vec _ _ a c hh =>
   obtain ⟨h',m',e1,e2,e3⟩:=hh;rw [o1] at e1;cases e1;exact e3 rfl
 have uk:=hF.ev x;rw [hx] at uk;generalize su:ev l x=v at uk
 cases uk with
 | sl0 a c k=>exact absurd rfl cr
 | sl b o c _ _ hr _ =>
  have mg:gX k news:=fun r MM=>by
   obtain ⟨j,hj⟩:=List.mem_iff_getElem?.1 MM;refine ⟨(hr j r hj).1,fun g hg=>?_⟩;obtain ⟨q,hq⟩:=List.mem_iff_getElem?.1 hg;exact (hI.fz _ _ _ ((hr j r hj).2 q g hq)).1
  have zp:∀ (rows:List (List GV)) (o:Nat),(∀ (j:Nat) r,rows[j]?=some r->r.length=k/\∀ (q:Nat) g,r[q]?=some g->K b (o+j * k+q)=some g)->∀ (q:Nat) g,rows.flatten[q]?=some g->K b (o+q)=some g:=by
   intro rows
   induction rows with
   | nil=>intro o _ q g hg;simp at hg
   | cons r rows ih =>
    intro o h q g hg;rw [flatten_cons] at hg;have hl:=(h 0 r rfl).1
    by_cases hq:q < r.length
    ·rw [ff hq] at hg;have:=(h 0 r rfl).2 q g hg;simpa using this
    ·rw [eE (by omega),hl] at hg
     have:=ih (o+k) (fun j r' hj=>by
      have:=h (j+1) r' (by simpa using hj);refine ⟨this.1,fun q g hg=>?_⟩;have:=this.2 q g hg
      rw [show o+(j+1) * k+q=o+k+j * k+q by rw [Nat.succ_mul];omega] at this;exact this) (q - k) g hg
     rw [show o+k+(q - k)=o+q by omega] at this;exact this
  obtain ⟨us,jS,km⟩:=wT (K:=K) (β:=β) (H:=w.heap) (b:=b) news.flatten o (fun j g hj=>by
   obtain ⟨hp,u,hu,fv⟩:=hI.fz _ _ _ (zp news o (fun j r hj=>hr j r hj) j g hj)
   exact ⟨u,hu,fv.pc hp⟩)
  have yF:us.length=news.length * k:=by
   rw [jS.1,List.length_flatten]
   have:∀ (rows:List (List GV)),gX k rows->(rows.map List.length).sum=rows.length * k:=by
    intro rows
    induction rows with
    | nil=>intro _;simp
    | cons r rows ih =>
     intro hk;rw [List.map_cons,sum_cons,ih (fun r hr=>hk r (di _ hr)),(hk r (mem_cons_self)).1,length_cons,Nat.succ_mul];omega
   exact this news mg
  refine WL.app (base:=0) (v:=h0) (n:=rows.length) (m:=news.length) (xs:=xs) (news:=us) rl o2 su yF (fun j u hj=>by rw [fG];exact km j u hj) (jS.l8 (B5 L)) hb.1 hb.2 (aM _) ?_;intro v' w' how iw uW vU
  obtain ⟨K',hK,rp,bs⟩:=hI.grow bG o1 ⟨o2,o3⟩ (news:=news) (ns:=us) how iw uW jS mg cr (fun b bC o v ho hv=>by
   rcases vU with h7 | h7
   ·exact h7.c hv (fun h=>h)
   ·have gT:o < xs.length:=by rw [o2.1];exact xE ho (qW k o6)
    obtain ⟨b2,c2,qc,_,_,kG⟩:=o2.cells.2 (by intro h0;rw [h0] at gT;simp at gT)
    have fg:b2=b:=by rw [qc] at bC;cases bC;rfl
    subst fg;have DW:=kG o xs[o] (by simp [gT]);rw [fG,hv] at DW;cases DW;obtain ⟨b3,c3,MA,_,_,Mv⟩:=how.cells.2 (by intro h0;have:xs=[]:=(List.append_eq_nil_iff.1 h0).1;rw [this] at gT;simp at gT)
    have ym:b3=b2:=by rw [MA,bC] at h7;cases h7;rfl
    subst ym
    rw [<-fG];exact Mv o _ (by rw [ff gT];simp [gT]))
  rw [<-bf] at bs;refine h B K' _ w' _ hm bs ((hF.mono hK rp).put d ?_);obtain ⟨a,c,rfl⟩:=how.shape;exact .vec i _ a c ⟨_,_,bH,by simp,fun _=>by simp⟩
theorem Wk.Gj {i o:Nat} {T:TypeId} {cs:List GV} (E k:Nat) (hi:F[i]?=some (.box T cs)) (ho:cs[o]?=some (.v (.slice none 0 0))):Wk m fr F fr (oset F i (.box T (bo cs o (.vec F.length 0)))++[.vec E k 0 []]):=fun B K β w l hm hI hF=>by
 have cV:β F.length=.no:=hI.out _ (aD _);have ak:i < F.length:=(bp hi).1;have bs:=hI.EW (w':=w) (E:=E) (k:=k) (x:=.slice none 0 0) (xs:=[]) (rows:=[]) (Ext.refl w) (iQ.nil w 0 E k) (fun b hb=>by cases hb) bh.nil (fun r hr=>by cases hr);have hle:dp β (fY β F.length (.gr (.slice none 0 0) ([]:List (List GV)).length)):=jr (by rw [cV];trivial);refine ⟨K,_,⟨bs.ext,bs.kle,bs.ble,bs.loc,bs.fz,fun j x hj=>?_,fun j hj=>bs.out j (by simp [bf] at hj |-;exact hj),bs.dis,bs.own,bs.kn,bs.tab⟩,hF.mono (cU.refl K) hle⟩
 by_cases hji:j=i
 ·subst hji;rw [ff (by simp [bf];exact ak),bf,dB] at hj;simp [ak] at hj;subst hj;obtain ⟨b,vs,L,I,h3,h4⟩:=bs.ob j (.box T cs) (by rw [ff ak];exact hi);refine ⟨b,vs,L,I,?_,h4⟩
  have gen:∀ (vs:List Value) (cs:List GV) (o:Nat),bh K (fY β F.length (.gr (.slice none 0 0) ([]:List (List GV)).length)) vs cs->cs[o]?=some (.v (.slice none 0 0))->bh K (fY β F.length (.gr (.slice none 0 0) ([]:List (List GV)).length)) vs (bo cs o (.vec F.length 0)):=by
   intro vs
   induction vs with
   | nil=>intro cs o h ho;have:cs=[]:=gJ h.1.symm;subst this;simp at ho
   | cons v vs ih =>
    intro cs o h ho
    cases cs with
    | nil=>simp at ho
    | cons c cs =>
     obtain ⟨a1,a2⟩:=h.pI
     cases o with
     | zero =>
      cases ho;have hv:=Rel.fD a1;subst hv;exact .cons (.vec _ 0 none 0 ⟨_,_,bH,aD _,fun _=>rfl⟩) a2
     | succ o=>exact .cons a1 (ih cs o a2 (by simpa using ho))
  exact gen vs cs o h3 ho
 ·refine bs.ob j x ?_
  by_cases yv:j < F.length
  ·rw [ff (by simp [bf];exact yv),bf,dB,M (fun e=>hji e.symm)] at hj;rw [ff yv];exact hj
  ·rw [eE (by simp [bf];omega)] at hj;rw [eE (by omega)];simpa [bf] using hj
theorem Wk.tw {i o j n E k fz:Nat} {T:TypeId} {cs:List GV} {rows:List (List GV)} (hi:F[i]?=some (.box T cs)) (ho:cs[o]?=some (.vec j n)) (gA:Nat.beq i j=false) (hj:F[j]?=some (.vec E k fz rows)) (hn:rows.length=n):Wk m fr F fr (oset (oset F j (.vec E k n rows)) i (.box T (bo cs o (.sl k rows)))):=fun B K β w l hm hI hF=>by
 subst hn
 have cr:i≠j:=by intro e;subst e;simp at gA
 obtain ⟨h0,xs,o1,o2,o3,o4,o5,o6⟩:=hI.ob j _ hj;obtain ⟨K',hK,DP,bs⟩:=hI.jv hj;rw [<-bf] at bs;refine ⟨K',β,⟨bs.ext,bs.kle,bs.ble,bs.loc,bs.fz,fun q x hq=>?_,fun q hq=>bs.out q (by simpa [bf] using hq),bs.dis,bs.own,bs.kn,bs.tab⟩,hF.mono hK (dp.refl β)⟩
 by_cases hqi:q=i
 ·subst hqi;have ak:q < F.length:=(bp hi).1;rw [bf,dB] at hq;simp [bf,ak] at hq;subst hq;obtain ⟨b,vs,L,I,h3,h4⟩:=bs.ob q (.box T cs) (by rw [bf,dB,M (fun e=>cr e.symm)];exact hi);refine ⟨b,vs,L,I,?_,h4⟩
  have gen:∀ (vs:List Value) (cs:List GV) (o:Nat),bh K' β vs cs->cs[o]?=some (.vec j rows.length)->bh K' β vs (bo cs o (.sl k rows)):=by
   intro vs
   induction vs with
   | nil=>intro cs o h ho;have:cs=[]:=gJ h.1.symm;subst this;simp at ho
   | cons v vs ih =>
    intro cs o h ho
    cases cs with
    | nil=>simp at ho
    | cons c cs =>
     obtain ⟨a1,a2⟩:=h.pI
     cases o with
     | zero =>
      cases ho;refine .cons ?_ a2
      cases a1 with
      | vec _ _ a c hh =>
       obtain ⟨h',m',e1,e2,e3⟩:=hh;rw [o1] at e1;cases e1;have e4:=e3 rfl
       rcases o2.2 with ⟨e5,e6⟩ | ⟨g,cap,cu,e5,_,_,rf,_⟩
       ·have:rows=[]:=gJ e6;subst this;exact .sl0 _ _ _
       ·rw [e5] at e4;cases e4;refine .sl g 0 _ k rows (fun j r hr=>⟨(o4 r (bF hr)).1,fun q g' mu=>?_⟩) rf;rw [cL];exact DP _ g o1 (by rw [e5];rfl) _ g' (uy o4 hr mu)
     | succ o=>exact .cons a1 (ih cs o a2 (by simpa using ho))
  exact gen vs cs o h3 ho
 ·rw [bf,dB,M (fun e=>hqi e.symm)] at hq;exact bs.ob q x hq
end
class JQ (P:Program) (t:TypeId) (k:outParam IntKind):Prop where
 und:P.underlying t=some (.int k)
class Lm (P:Program) (t:TypeId):Prop where
 und:∃ e,P.underlying t=some (.slice e)/\P.underlying e=some (.int .u8)
theorem Lm.mk' {P:Program} {t e:TypeId} (h:P.underlying t=some (.slice e)) (k:P.underlying e=some (.int .u8)):Lm P t:=⟨e,h,k⟩
section
variable {P:Program} {m:Nat} {Q:du} {fr:List GV} {F:List Ob} {ops:Array Oper} {rest:List Oper} {d:Option Tmp} {op:Op} {ty:TypeId} {pos:String} {af:Array Edge}
theorem YG.GY {x y:Operand} {t t':TypeId} {a b:Int} (hx:ba fr x=.v (.int .u8 a)) (hy:ba fr y=.v (.int .u8 b)) (hb:0<=a - b/\a - b<=255):YG P (.binOp .sub t x y t') fr F (.v (.int .u8 (a - b))) :=
 YG.v2 hx hy fun l w h k d ty pos af=>by simp [execOp,eqGuard,h,k,binOp,Op.intArith,IntWalk.u8_in _ hb]
theorem YG.quo {x y:Operand} {t t':TypeId} {a b:Int} (hx:ba fr x=.v (ii a)) (hy:ba fr y=.v (ii b)) (hb:0<=a/\a<=9223372036854775807/\1<=b):YG P (.binOp .quo t x y t') fr F (.v (ii (a / b))) :=
 YG.v2 hx hy fun l w h k d ty pos af=>by
  have cr:b≠0:=by omega
  simp [execOp,eqGuard,h,k,binOp,Op.intDiv,cr,IntWalk.i64_quo a b hb]
theorem YG.rem {x y:Operand} {t t':TypeId} {a b:Int} (hx:ba fr x=.v (ii a)) (hy:ba fr y=.v (ii b)) (hb:0<=a/\1<=b):YG P (.binOp .rem t x y t') fr F (.v (ii (a % b))) :=
 YG.v2 hx hy fun l w h k d ty pos af=>by
  have cr:b≠0:=by omega
  simp [execOp,eqGuard,h,k,binOp,Op.intDiv,cr,IntWalk.rem_in a b hb.1]
theorem YG.Bh {x:Operand} {s t:TypeId} {k k':IntKind} {a:Int} [hS:JQ P s k'] [hT:JQ P t k] (hx:ba fr x=.v (.int k' a)) (hw:k.wrap a=a):YG P (.convert s t x) fr F (.v (.int k a)) :=
 YG.v1 hx fun l w h d ty pos af=>by simp [execOp,h,convert,run_underlying hS.und,run_underlying hT.und,Conv.intToInt,hw]
theorem YG.str {x:Operand} {s t:TypeId} {l:ae} {rows:List (List GV)} [hS:Lm P s] [hT:qo P t] (hx:ba fr x=.sl 1 rows) (hr:rows=l.map fun c=>[.v (.int .u8 (c.toNat:Int))]):YG P (.convert s t x) fr F (.v (sv l)):=fun B K β w fl hI hF=>by
 subst hr;obtain ⟨e,L,I⟩:=hS.und;have h:=hF.ev x;rw [hx] at h;generalize hv:ev fl x=v at h;refine ⟨_,fun d ty pos af=>?_,.v _⟩
 have key:(convert s t v).run P w=.ok (sv l) w:=by
  generalize mg:(l.map fun c=>[GV.v (.int .u8 (c.toNat:Int))])=rows at h
  cases h with
  | sl0 a c =>
   have:l=[]:=by cases l with | nil=>rfl | cons x l=>simp at mg
   subst this
   cases a with
   | none=>rw [run_convert_bytes_string w s t e none 0 c L I hT.und];simp [Conv.bytesToString];rfl
   | some a=>exact run_convert_bytes_back w s t e a c [] L I hT.und (fun j hj=>by simp at hj)
  | sl b o c _ _ hc _ =>
   have hl:rows.length=l.length:=by rw [<-mg];simp
   rw [hl];refine run_convert_bytes_back w s t e ⟨b,o,none⟩ c l L I hT.und (fun j hj=>?_)
   have bL:rows[j]?=some [GV.v (.int .u8 (l[j].toNat:Int))]:=by rw [<-mg];simp [hj]
   obtain ⟨_,u,hu,fv⟩:=hI.fz _ _ _ ((hc j _ bL).2 0 _ rfl);rw [qp,fG];have:=Rel.fD fv;subst this;simpa using hu
 simp [execOp,hv,key]
end
structure Hid (B:Prop):Prop where
 h:B
structure tM (aL:List Nat) (C:Prop):Prop where
 h:C
section
variable {P:Program} {m:Nat} {ops:Array Oper} {Q:du} {rest:List Oper} {fr:List GV} {F:List Ob} {d:Option Tmp} {ty:TypeId} {pos:String} {af:Array Edge}
theorem GL.vK {f:FuncId} [hf:aJ P f] {aL:List Nat} {args:List Operand} {lP:Array TypeId} {gs:List GV} {iM rV:List Ob} {g:GV} (hc:tM aL (GF P f gs iM g rV)) (ha:kD (args.map (ba fr)) (lh (ct aL F.length) gs)) (eW:iZ aL F.length=true)
  (bG:seen (ct aL F.length) F aL iM) (hl:Nat.ble aL.length rV.length=true) (h:GL P m ops Q rest (bx fr d (dX (ct aL F.length) g)) (dm F aL (rV.map (Ob.dX (ct aL F.length))))) :
  GL P m ops Q (⟨d,.call ⟨.value (.func f),args.toArray,lP⟩,ty,pos,af,none⟩::rest) fr F:=GL.JY aL hc.h ha eW bG hl h
theorem GL.Tp {f:FuncId} [hf:aJ P f] {aL:List Nat} {args:List Operand} {lP:Array TypeId} {gs:List GV} {iM:List Ob} {R:GV->List Ob->Prop} (hc:tM aL (GC P f gs iM R)) (ha:kD (args.map (ba fr)) (lh (ct aL F.length) gs)) (eW:iZ aL F.length=true)
  (bG:seen (ct aL F.length) F aL iM) (h:∀ g aO,R g aO->aL.length<=aO.length/\GL P m ops Q rest (bx fr d (dX (ct aL F.length) g)) (dm F aL (aO.map (Ob.dX (ct aL F.length))))) :
  GL P m ops Q (⟨d,.call ⟨.value (.func f),args.toArray,lP⟩,ty,pos,af,none⟩::rest) fr F:=GL.EC aL hc.h ha eW bG h
theorem GL.LM {f:FuncId} [hf:aJ P f] {aL:List Nat} {x:Operand} {first cap:List GV} {args:List Operand} {lP:Array TypeId} {gs:List GV} {iM:List Ob} {R:GV->List Ob->Prop} (hc:tM aL (GC P f gs iM R)) (hx:ba fr x=.fn (.func f) first cap) (ha:first++args.map (ba fr)++cap=lh (ct aL F.length) gs) (eW:iZ aL F.length=true)
  (bG:seen (ct aL F.length) F aL iM) (h:∀ g aO,R g aO->aL.length<=aO.length/\GL P m ops Q rest (bx fr d (dX (ct aL F.length) g)) (dm F aL (aO.map (Ob.dX (ct aL F.length))))) :
  GL P m ops Q (⟨d,.call ⟨.value x,args.toArray,lP⟩,ty,pos,af,none⟩::rest) fr F:=GL.ED aL hc.h hx ha eW bG h
theorem GL.LL {f:FuncId} [hf:aJ P f] {aL:List Nat} {x:Operand} {args:List Operand} {lP:Array TypeId} {gs:List GV} {iM:List Ob} {R:GV->List Ob->Prop} (hc:tM aL (GC P f gs iM R)) (hx:ba fr x=.v (.func (.func f) #[] #[])) (ha:args.map (ba fr)=lh (ct aL F.length) gs) (eW:iZ aL F.length=true)
  (bG:seen (ct aL F.length) F aL iM) (h:∀ g aO,R g aO->aL.length<=aO.length/\GL P m ops Q rest (bx fr d (dX (ct aL F.length) g)) (dm F aL (aO.map (Ob.dX (ct aL F.length))))) :
  GL P m ops Q (⟨d,.call ⟨.value x,args.toArray,lP⟩,ty,pos,af,none⟩::rest) fr F:=GL.VY aL hc.h hx ha eW bG h
end
theorem dh {A : Prop} (s : A := by first | omega | assumption | (simp only [List.length_append,List.length_cons,List.length_nil];omega)) : A := s
theorem bm {A : Prop} (s : A := by first | rfl | assumption) : A := s
theorem tz {A : Prop} (s : A := by apply K.len;first | exact YG.Wv rfl | exact YG.PG rfl | exact YG.Zs rfl | exact YG.Zt rfl | exact YG.lenA rfl) : A := s
theorem dF {A : Prop} (s : A := by first | exact .inr rfl | exact .inl rfl) : A := s
theorem wH {A : Prop} (s : A := by apply K.ld;first | exact YG.XV rfl rfl bm | exact YG.PD rfl rfl rfl rfl | exact YG.ldV rfl rfl bm bm bm | exact YG.XU rfl rfl bm bm bm) : A := s
theorem Oa {A : Prop} (s : A := by apply K.ld;first | exact YG.XV rfl rfl bm | exact YG.XT rfl bm | exact YG.PD rfl rfl rfl rfl | exact YG.U0 rfl rfl rfl | exact YG.ldV rfl rfl bm bm bm | exact YG.XU rfl rfl bm bm bm) : A := s
theorem qS {A : Prop} (s : A := by apply K.nck;first | exact YG.Zx rfl | exact YG.Zw rfl) : A := s
theorem sH {A : Prop} (s : A := by apply K.pick;first | exact YG.Rq rfl bm | exact YG.Rp rfl bm) : A := s
theorem cW {A : Prop} (s : A := by assumption) : A := s
theorem eP {A : Prop} (s : A := by omega) : A := s
theorem Co {A : Prop} (s : A := by apply K.bin;first | exact YG.go rfl | exact YG.xX rfl rfl eP | exact YG.Bj rfl rfl | exact YG.B0 rfl rfl | exact YG.E9 rfl rfl | exact YG.Gi rfl rfl | exact YG.cat rfl rfl eP | exact YG.cat rfl rfl (by simp only [List.length_append,List.length_cons,List.length_nil];omega) | exact YG.Aw rfl rfl eP | exact YG.add rfl rfl eP | exact YG.sub rfl rfl eP | exact YG.mul rfl rfl eP | exact YG.GY rfl rfl eP | exact YG.quo rfl rfl eP | exact YG.rem rfl rfl eP | exact YG.xj rfl rfl) : A := s
theorem Cr {A : Prop} (s : A := by apply K.NQ;first | exact YG.GX rfl rfl rfl eP | exact YG.GS rfl rfl eP | exact YG.GR rfl rfl eP | exact YG.yY 1 rfl rfl rfl bm) : A := s
theorem RB {A : Prop} (s : A := by apply K.idx;first | exact YG.idxV rfl rfl rfl bm eP | exact YG.eB 0 rfl rfl rfl dh | exact YG.eB 1 rfl rfl rfl dh | exact YG.eB 2 rfl rfl rfl dh | exact YG.eB 3 rfl rfl rfl dh | exact YG.eB 4 rfl rfl rfl dh | exact YG.eB 5 rfl rfl rfl dh | exact YG.eB 6 rfl rfl rfl dh) : A := s
theorem RC {A : Prop} (s : A := by apply K.idx;first | exact YG.xc rfl rfl cW | exact YG.nD rfl rfl cW rfl | exact YG.nD rfl rfl cW eP | exact YG.yH rfl rfl eP | exact YG.idxV rfl rfl rfl bm eP | exact YG.eB 0 rfl rfl rfl dh | exact YG.eB 1 rfl rfl rfl dh | exact YG.eB 2 rfl rfl rfl dh | exact YG.eB 3 rfl rfl rfl dh | exact YG.eB 4 rfl rfl rfl dh | exact YG.eB 5 rfl rfl rfl dh | exact YG.eB 6 rfl rfl rfl dh) : A := s
theorem y9 {A : Prop} (s : A := by first | rfl | exact IntWalk.i64_in _ eP | exact IntWalk.u8_in _ eP | assumption) : A := s
theorem Ha {A : Prop} (s : A := by apply K.idx;first | exact YG.xc rfl rfl cW | exact YG.nD rfl rfl cW rfl | exact YG.nD rfl rfl cW eP | exact YG.yH rfl rfl eP) : A := s
theorem sI {A : Prop} (s : A := by apply K.CY;first | exact YG.mkfn0 | exact YG.CY) : A := s
theorem uG {A : Prop} (s : A := by apply K.ld;first | exact YG.XT rfl bm | exact YG.U0 rfl rfl rfl) : A := s
theorem Od {A : Prop} (s : A := by apply K.TC;first | exact YG.TF rfl | exact YG.TD rfl | exact YG.fldV rfl rfl bm | exact YG.TE rfl rfl bm) : A := s
theorem Lj {A : Prop} (s : A := by first | exact YG.mv | exact YG.vE | exact Co | exact Od | exact Oa | exact tz | exact qS | exact sH | exact RC | exact YG.ext rfl rfl | exact YG.go rfl | exact Cr | exact YG.um rfl rfl cW | exact YG.idxSC rfl rfl cW rfl | exact sI | exact YG.build rfl | exact YG.neg rfl eP | exact YG.ua rfl rfl | exact YG.Bh rfl y9 | exact YG.str rfl bm) : A := s
theorem uH {A : Prop} (s : A := by apply K.TC;first | exact YG.TF rfl | exact YG.TD rfl) : A := s
theorem wI {A : Prop} (s : A := by apply K.TC;first | exact YG.fldV rfl rfl bm | exact YG.TE rfl rfl bm) : A := s
theorem RA {A : Prop} (s : A := by first | exact wH | exact RB | exact wI | exact YG.wy 1 rfl rfl bm bm | exact YG.mv | exact YG.vE | exact Co | exact uH | exact uG | exact tz | exact qS | exact sH | exact Ha | exact YG.ext rfl rfl | exact YG.go rfl | exact Cr | exact YG.um rfl rfl cW | exact YG.idxSC rfl rfl cW rfl | exact sI | exact YG.build rfl | exact YG.neg rfl eP | exact YG.ua rfl rfl | exact YG.Bh rfl y9 | exact YG.str rfl bm) : A := s
theorem Oc {A : Prop} (s : A := by first | exact wH | exact RB | exact wI | exact YG.wy 1 rfl rfl bm bm) : A := s
theorem jN {A:Prop} (s:A:=by repeat (first | exact jQ.n | (apply jQ.w;(· decide +kernel)) | (apply jQ.y;(· first | (apply YQ.t;(· exact rfl);(· exact rfl);(· exact RA)) | (apply YQ.t;(· exact rfl);(· apply CL;(· exact rfl);(· first | exact rfl | assumption));(· exact RA)) | (apply YQ.f;(· exact rfl);(· apply Fi;(· exact rfl);(· first | exact rfl | assumption))))))):A:=s
theorem dL {A:Prop} (s:A:=by (try simp only [bx,bo,ba,cB,List.length_cons,List.length_nil,Nat.reduceAdd,dX,lh,ct]);rfl):A:=s
theorem fb {A:Prop} (s:A:=by (try simp only [List.cons_append,List.nil_append,oset,oO,bo,cB,ba,dm,List.map_cons,List.map_nil,Ob.dX,dX,lh,ct]);rfl):A:=s
theorem vk {A:Prop} (s:A:=by simp only [bx,bo,ba,cB];rfl):A:=s
theorem kU {A:Prop} (s:A:=by first | exact kD.refl | (repeat (first | exact kD.nil | exact mn.refl | exact mn.nil | exact mn.U | exact mn.fn0 | refine kD.cons ?_ ?_ | refine mn.agg ?_))):A:=s
theorem oH {A:Prop} (s:A:=by first | exact trivial | exact ⟨rfl,trivial⟩ | exact ⟨rfl,rfl,trivial⟩ | exact ⟨rfl,rfl,rfl,trivial⟩ | exact ⟨rfl,rfl,rfl,rfl,rfl,trivial⟩):A:=s
theorem D {A B:Prop} (h:B) (s:Hid B->A:=by intro hQ;(repeat (first | ((first | (apply GL.q;(· exact Lj)) | refine GL.nil ?_ | refine aW ?_ | refine GW.seq ?_ | refine GW.region ?_ | refine GW.skip ?_ | refine jb ?_ | refine GW.block ?_ | (apply GL.gt;(· exact rfl);(· first | exact rfl | assumption)) | (apply GL.gf;(· exact rfl);(· first | exact rfl | assumption)) | (apply GL.gu;(· exact rfl)) | (apply Lt;(· exact rfl);(· first | exact rfl | assumption)) | (apply Ls;(· exact rfl);(· first | exact rfl | assumption)));try refine GN vk ?_) | ((first | (apply GL.alloc;(· simp only [lQ,Value.cells,List.map_cons,List.map_nil];rfl)) | (apply GL.box;(· exact rfl)) | (apply GL.st;(· exact rfl);(· exact rfl);(· exact rfl);(· exact rfl);(· exact rfl);(· exact rfl)));refine sQ dL fb ?_)));exact hQ.1):A:=s ⟨h⟩
theorem aj {A B:Prop} (h:B) (s:Hid B->A:=by intro hQ;(repeat ((first | (apply ZN;(· exact rfl)) | (apply ZM;(· exact rfl)) | (apply OP;(· exact rfl);(· intro F;(first | exact Co | exact uH | exact uG | exact tz | exact qS | exact Ha | exact YG.ext rfl rfl | exact YG.go rfl | exact Cr | exact YG.um rfl rfl cW | exact YG.idxSC rfl rfl cW rfl | exact sI | exact YG.build rfl | exact YG.neg rfl eP | exact YG.ua rfl rfl | exact YG.Bh rfl y9 | exact YG.str rfl bm))) | (apply Ya;(· exact rfl);(· exact rfl);(· first | exact rfl | assumption)) | (apply X9;(· exact rfl);(· exact rfl);(· first | exact rfl | assumption)) | (apply Yb;(· exact rfl);(· exact rfl);(· first | exact rfl | assumption)) | (apply OQ;(· exact rfl);(· exact Oc)) | (apply W6;(· exact rfl);(· exact rfl);(· first | exact rfl | assumption);(· intro F;(first | exact YG.mv | exact YG.vE | exact Co | exact uH | exact uG | exact tz | exact qS | exact sH | exact Ha | exact YG.ext rfl rfl | exact YG.go rfl | exact Cr | exact YG.um rfl rfl cW | exact YG.idxSC rfl rfl cW rfl | exact sI | exact YG.build rfl | exact YG.neg rfl eP | exact YG.ua rfl rfl | exact YG.Bh rfl y9 | exact YG.str rfl bm))) | (apply ZO;(· exact rfl);(· exact rfl);(· first | exact rfl | assumption);(· exact Oc)) | (apply ZK;(· exact rfl);(· exact rfl);(· first | exact rfl | assumption)) | (apply ZL;(· exact rfl);(· exact rfl)) | (apply ZI;(· exact rfl);(· exact rfl);(· first | exact rfl | assumption);(· exact jN)) | (apply ZJ;(· exact rfl);(· exact rfl);(· exact jN)) | refine GO.nil ?_ | (apply OA;(· exact rfl);(· exact rfl);apply GL.alloc;(· simp only [lQ,Value.cells,List.map_cons,List.map_nil];rfl);refine GL.nil (aW (fk.mk jN ?_));refine pb dL fb ?_) | (apply OA;(· exact rfl);(· exact rfl);apply GL.st;(· exact rfl);(· exact rfl);(· exact rfl);(· exact rfl);(· exact rfl);(· exact rfl);refine GL.nil (aW (fk.mk jN ?_));refine pb dL fb ?_) | (apply OA;(· exact rfl);(· exact rfl);apply GL.box;(· exact rfl);refine GL.nil (aW (fk.mk jN ?_));refine pb dL fb ?_));try refine W5 vk ?_));exact hQ.1):A:=s ⟨h⟩
theorem lu {A B:Prop} (h:B) (s:Hid B->A:=by intro hQ;(repeat (first | ((first | (apply GL.q;(· (first | exact YG.mv | exact YG.vE | exact Co | exact Od | exact Oa | exact tz | exact qS | exact sH | exact RC | exact YG.ext rfl rfl | exact YG.go rfl | exact Cr | exact YG.um rfl rfl cW | exact YG.idxSC rfl rfl cW rfl | fail | exact YG.build rfl | exact YG.neg rfl eP | exact YG.ua rfl rfl | exact YG.Bh rfl y9 | exact YG.str rfl bm))) | refine GL.nil ?_ | refine aW ?_ | refine GW.seq ?_ | refine GW.region ?_ | refine GW.skip ?_ | refine jb ?_ | refine GW.block ?_ | (apply GL.gt;(· exact rfl);(· first | exact rfl | assumption)) | (apply GL.gf;(· exact rfl);(· first | exact rfl | assumption)) | (apply GL.gu;(· exact rfl)) | (apply Lt;(· exact rfl);(· first | exact rfl | assumption)) | (apply Ls;(· exact rfl);(· first | exact rfl | assumption)));try refine GN vk ?_) | ((first | (apply GL.alloc;(· simp only [lQ,Value.cells,List.map_cons,List.map_nil];rfl)) | (apply GL.box;(· exact rfl)) | (apply GL.st;(· exact rfl);(· exact rfl);(· exact rfl);(· exact rfl);(· exact rfl);(· exact rfl)));refine sQ dL fb ?_)));exact hQ.1):A:=s ⟨h⟩
theorem JF {A B:Prop} (h:B) (s:Hid B->A:=by intro hQ;(repeat (first | ((first | (apply GL.q;(· exact Lj)) | refine GL.nil ?_ | refine aW ?_ | refine GW.seq ?_ | refine GW.region ?_ | refine GW.skip ?_ | refine jb ?_ | (apply GL.gt;(· exact rfl);(· first | exact rfl | assumption)) | (apply GL.gf;(· exact rfl);(· first | exact rfl | assumption)) | (apply GL.gu;(· exact rfl)) | (apply Lt;(· exact rfl);(· first | exact rfl | assumption)) | (apply Ls;(· exact rfl);(· first | exact rfl | assumption)));try refine GN vk ?_) | ((first | (apply GL.alloc;(· simp only [lQ,Value.cells,List.map_cons,List.map_nil];rfl)) | (apply GL.box;(· exact rfl)) | (apply GL.st;(· exact rfl);(· exact rfl);(· exact rfl);(· exact rfl);(· exact rfl);(· exact rfl)));refine sQ dL fb ?_)));exact hQ.1):A:=s ⟨h⟩
theorem bJ {A B:Prop} (h:B) (s:Hid B->A:=by intro hQ;(try refine GN vk ?_);exact hQ.1):A:=s ⟨h⟩
theorem Rz {A B:Prop} (h:B) (s:Hid B->A:=by intro hQ;(try refine W5 vk ?_);exact hQ.1):A:=s ⟨h⟩
theorem cE {A B:Prop} (h:B) (s:Hid B->A:=by intro hQ;(refine sQ dL fb ?_);exact hQ.1):A:=s ⟨h⟩
theorem N9 {A B:Prop} (h:B) (s:Hid B->A:=by intro hQ;(refine pb dL fb ?_);exact hQ.1):A:=s ⟨h⟩
theorem jY {A B:Prop} (h:B) (s:Hid B->A:=by intro hQ;((repeat (first | refine GW.exit ?_ | refine Fm ?_ | refine IC ?_ | refine ginb_xn rfl ?_ | refine jb ?_ | refine aW ?_)));exact hQ.1):A:=s ⟨h⟩
theorem cv {A B:Prop} (h:B) (s:Hid B->A:=by intro hQ;((repeat (first | refine GW.ret ?_ | refine jK ?_ | refine jJ ?_ | refine aW ?_ | refine jb ?_));refine CM rfl dF rfl (Nat.le_refl _) rfl rfl ?_);exact hQ.1):A:=s ⟨h⟩
theorem eN {A B:Prop} (h:B) (s:Hid B->A:=by intro hQ;((repeat (first | refine GW.ret ?_ | refine jK ?_ | refine jJ ?_ | refine aW ?_ | refine jb ?_));refine TL rfl dF (Nat.le_refl _) rfl ?_);exact hQ.1):A:=s ⟨h⟩
theorem zH {A B:Prop} (h:B) (s:Hid B->A:=by intro hQ;((repeat (first | refine GW.ret ?_ | refine jK ?_ | refine jJ ?_ | refine aW ?_ | refine jb ?_));refine O9 rfl dF rfl rfl (Nat.le_refl _) rfl rfl ?_);exact hQ.1):A:=s ⟨h⟩
theorem JC {A B:Prop} (h:B) (s:Hid B->A:=by intro hQ;((repeat (first | refine GW.ret ?_ | refine jK ?_ | refine jJ ?_ | refine aW ?_ | refine jb ?_));refine TM rfl dF rfl rfl rfl (Nat.le_refl _) rfl rfl ?_);exact hQ.1):A:=s ⟨h⟩
theorem rT {A B:Prop} (h:B) (s:Hid B->A:=by intro hQ;((repeat (first | refine GW.ret ?_ | refine jK ?_ | refine jJ ?_ | refine aW ?_ | refine jb ?_));refine yg ?_;refine TM rfl dF rfl rfl rfl (Nat.le_refl _) rfl rfl ?_);exact hQ.1):A:=s ⟨h⟩
theorem G9 {A B:Prop} (h:B) (s:Hid B->A:=by intro hQ;((repeat (first | refine GW.ret ?_ | refine jK ?_ | refine jJ ?_ | refine aW ?_ | refine jb ?_));refine yg ?_;refine O9 rfl dF rfl rfl (Nat.le_refl _) rfl rfl ?_);exact hQ.1):A:=s ⟨h⟩
theorem rU {A B:Prop} (h:B) (s:Hid B->A:=by intro hQ;((repeat (first | refine GW.ret ?_ | refine jK ?_ | refine jJ ?_ | refine aW ?_ | refine jb ?_));refine yg ?_;refine Pa rfl dF rfl rfl rfl (Nat.le_refl _) rfl rfl ?_);exact hQ.1):A:=s ⟨h⟩
theorem oG {A B:Prop} (h:B) (s:Hid B->A:=by intro hQ;((repeat (first | refine GW.ret ?_ | refine jK ?_ | refine jJ ?_ | refine aW ?_ | refine jb ?_));refine QI rfl dF rfl rfl rfl rfl (Nat.le_refl _) rfl rfl ?_);exact hQ.1):A:=s ⟨h⟩
theorem vl {A B:Prop} (h:B) (s:Hid B->A:=by intro hQ;((repeat (first | refine GW.ret ?_ | refine jK ?_ | refine jJ ?_ | refine aW ?_ | refine jb ?_));refine yg ?_;refine QI rfl dF rfl rfl rfl rfl (Nat.le_refl _) rfl rfl ?_);exact hQ.1):A:=s ⟨h⟩
theorem mY {A B:Prop} (h:B) (s:Hid B->A:=by intro hQ;((repeat (first | refine GW.ret ?_ | refine jK ?_ | refine jJ ?_ | refine aW ?_ | refine jb ?_));refine Mk rfl dF rfl rfl rfl rfl rfl (Nat.le_refl _) rfl rfl ?_);exact hQ.1):A:=s ⟨h⟩
theorem Cn {A B:Prop} (h:B) (s:Hid B->A:=by intro hQ;((repeat (first | refine GW.ret ?_ | refine jK ?_ | refine jJ ?_ | refine aW ?_ | refine jb ?_));refine yg ?_;refine Mk rfl dF rfl rfl rfl rfl rfl (Nat.le_refl _) rfl rfl ?_);exact hQ.1):A:=s ⟨h⟩
theorem JD {A B:Prop} (h:B) (s:Hid B->A:=by intro hQ;((repeat (first | refine GW.ret ?_ | refine jK ?_ | refine jJ ?_ | refine aW ?_ | refine jb ?_));refine Pa rfl dF rfl rfl rfl (Nat.le_refl _) rfl rfl ?_);exact hQ.1):A:=s ⟨h⟩
theorem cw {A B:Prop} (h:B) (s:Hid B->A:=by intro hQ;(refine GL.XX rfl rfl rfl rfl ?_;refine sQ dL fb ?_);exact hQ.1):A:=s ⟨h⟩
theorem oE {A B:Prop} (h:B) (s:Hid B->A:=by intro hQ;(refine GL.XY rfl rfl rfl rfl ?_;refine sQ dL fb ?_);exact hQ.1):A:=s ⟨h⟩
theorem eu {A B:Prop} (h:B) (s:Hid B->A:=by intro hQ;(refine GL.push rfl rfl rfl rfl rfl rfl rfl rfl bm ⟨⟨by omega,by omega⟩,by decide⟩ ?_;refine sQ dL fb ?_);exact hQ.1):A:=s ⟨h⟩
theorem rR {A B:Prop} (h:B) (s:Hid B->A:=by intro hQ;(refine OA rfl rfl (GL.XY rfl rfl rfl rfl (GL.nil (aW (fk.mk jN ?_))));refine pb dL fb ?_);exact hQ.1):A:=s ⟨h⟩
theorem zG {A B:Prop} (h:B) (s:Hid B->A:=by intro hQ;(refine OA rfl rfl (GL.app rfl rfl rfl bm rfl rfl (by refine ⟨?_,?_⟩;(· show _+1<=_;omega);(· show (_+1) * _<=_;omega)) (GL.nil (aW (fk.mk jN ?_))));refine pb dL fb ?_);exact hQ.1):A:=s ⟨h⟩
theorem eY {A B:Prop} (h:B) (s:Hid B->A:=by intro hQ;(refine OA rfl rfl (GL.XX rfl rfl rfl rfl (GL.nil (aW (fk.mk jN ?_))));refine pb dL fb ?_);exact hQ.1):A:=s ⟨h⟩
theorem G8 {A B:Prop} (h:B) (s:Hid B->A:=by intro hQ;(refine OA rfl rfl (GL.st rfl rfl rfl rfl rfl rfl (GL.nil (aW (fk.mk jN ?_))));refine pb dL fb ?_);exact hQ.1):A:=s ⟨h⟩
theorem Li {A B:Prop} (h:B) (s:Hid B->A:=by intro hQ;(refine OA rfl rfl (GL.N7 1 (by kernel_rfl) (by kernel_rfl) rfl rfl rfl rfl cW eP (GL.nil (aW (fk.mk jN ?_))));refine pb dL fb ?_);exact hQ.1):A:=s ⟨h⟩
theorem nL {A B:Prop} (h:B) (s:Hid B->A:=by intro hQ;(refine GL.stH rfl rfl rfl bm rfl rfl rfl rfl ?_;refine sQ dL fb ?_);exact hQ.1):A:=s ⟨h⟩
theorem lx {A B:Prop} (h:B) (s:Hid B->A:=by intro hQ;(refine GL.ZB rfl rfl (by first | rfl | assumption | omega) eP rfl rfl rfl rfl ?_;refine sQ dL fb ?_);exact hQ.1):A:=s ⟨h⟩
theorem eO {A B:Prop} (h:B) (s:Hid B->A:=by intro hQ;(refine ⟨by simp,?_⟩;refine sQ dL fb ?_);exact hQ.1):A:=s ⟨h⟩
theorem cj {A B:Prop} (h:B) (s:Hid B->A:=by intro hQ;(refine GL.nil (aW (fk.mk jN ?_));refine pb dL fb ?_);exact hQ.1):A:=s ⟨h⟩
theorem oX {A:Prop} (s:A:=by simp only [aX,vM];rfl):A:=s
theorem ik {A:Prop} (s:A:=by first | exact kD.refl | exact mn.refl | (repeat (first | exact kD.nil | exact mn.refl | exact mn.nil | exact mn.U | exact mn.fn0 | refine kD.cons ?_ ?_ | refine mn.agg ?_ | refine mn.tup ?_))):A:=s
theorem ao {A:Prop} (s:A:=by repeat (first | exact tP.nil | refine tP.U ?_ | refine tP.eq rfl ?_)):A:=s
theorem hY {A B C:Prop} (aL:List Nat) (c:C) (h:B) (s:tM aL C->Hid B->A:=by intro hC hQ;(refine GL.vK hC kU rfl oH rfl ?_;refine sQ dL fb ?_);exact hQ.1):A:=s ⟨c⟩ ⟨h⟩
theorem V {A B C:Prop} (aL:List Nat) (c:C) (h:B) (s:tM aL C->Hid B->A:=by intro hC hQ;(refine GL.vK hC kU rfl oH rfl ?_;refine sQ dL fb ?_);refine D ?_;exact hQ.1):A:=s ⟨c⟩ ⟨h⟩
theorem iH {A B C:Prop} (aL:List Nat) (c:C) (h:B) (s:tM aL C->Hid B->A:=by intro hC hQ;(refine OA rfl rfl (GL.vK hC kU rfl oH rfl (GL.nil (aW (fk.mk jN ?_))));refine pb dL fb ?_);exact hQ.1):A:=s ⟨c⟩ ⟨h⟩
theorem aI {A B C:Prop} (aL:List Nat) (c:C) (h:B) (s:tM aL C->Hid B->A:=by intro hC hQ;(refine OA rfl rfl (GL.vK hC kU rfl oH rfl (GL.nil (aW (fk.mk jN ?_))));refine pb dL fb ?_);refine aj ?_;exact hQ.1):A:=s ⟨c⟩ ⟨h⟩
theorem X6 {A B C:Prop} (aL:List Nat) (c:C) (h:B) (s:tM aL C->Hid B->A:=by intro hC hQ;(refine Qx rfl rfl rfl (by first | exact rfl | assumption) (GL.vK hC kU rfl oH rfl (GL.nil (aW (fk.mk jN ?_))));refine pb dL fb ?_);exact hQ.1):A:=s ⟨c⟩ ⟨h⟩
theorem bR {A B C:Prop} (aL:List Nat) (c:C) (h:B) (s:tM aL C->Hid B->A:=by intro hC hQ;(refine Qx rfl rfl rfl (by first | exact rfl | assumption) (GL.vK hC kU rfl oH rfl (GL.nil (aW (fk.mk jN ?_))));refine pb dL fb ?_);refine aj ?_;exact hQ.1):A:=s ⟨c⟩ ⟨h⟩
theorem jz {A B C:Prop} (aL:List Nat) (c:C) (h:B) (s:tM aL C->Hid B->A:=by intro hC hQ;(refine GL.LL hC rfl rfl rfl oH ?_;rintro _ _ ⟨rfl,rfl⟩;refine ⟨by simp,?_⟩;refine sQ dL fb ?_);exact hQ.1):A:=s ⟨c⟩ ⟨h⟩
theorem mb {A B C:Prop} (aL:List Nat) (c:C) (h:B) (s:tM aL C->Hid B->A:=by intro hC hQ;(refine GL.LM hC rfl rfl rfl oH ?_;rintro _ _ ⟨rfl,rfl⟩;refine ⟨by simp,?_⟩;refine sQ dL fb ?_);exact hQ.1):A:=s ⟨c⟩ ⟨h⟩
theorem y8 {A B C:Prop} (aL:List Nat) (c:C) (h:B) (s:tM aL C->Hid B->A:=by intro hC hQ;(refine OA rfl rfl (GL.LL hC rfl rfl rfl oH ?_);rintro _ _ ⟨rfl,rfl⟩;refine ⟨by simp,(GL.nil (aW (fk.mk jN ?_)))⟩;refine pb dL fb ?_);exact hQ.1):A:=s ⟨c⟩ ⟨h⟩
theorem oF {A B C:Prop} (aL:List Nat) (c:C) (h:B) (s:tM aL C->Hid B->A:=by intro hC hQ;(refine OA rfl rfl (GL.LM hC rfl rfl rfl oH ?_);rintro _ _ ⟨rfl,rfl⟩;refine ⟨by simp,(GL.nil (aW (fk.mk jN ?_)))⟩;refine pb dL fb ?_);exact hQ.1):A:=s ⟨c⟩ ⟨h⟩
theorem cD {A B C:Prop} (aL:List Nat) (c:C) (h:B) (s:tM aL C->Hid B->A:=by intro hC hQ;(refine GL.Tp hC kU rfl oH ?_);exact hQ.1):A:=s ⟨c⟩ ⟨h⟩
theorem cY {A B C aaG : Prop} (f : C) (n : aaG) (h : B) (s : C -> aaG -> Hid B -> A := by intro hC hD hQ;refine GC.enter hC hD rfl (by simp only [yh,Fl,Nat.reduceSub];rfl) ?_;exact hQ.1) : A := s f n ⟨h⟩
theorem ah {A B C aaG : Prop} (f : C) (n : aaG) (h : B) (s : C -> aaG -> Hid B -> A := by intro hC hD hQ;refine GC.enter hC hD rfl (by simp only [yh,Fl,Nat.reduceSub];rfl) ?_;refine D ?_;exact hQ.1) : A := s f n ⟨h⟩
theorem al {A : Prop} (s : A := by refine cv ?_;exact ⟨rfl,rfl⟩) : A := s
theorem ay {A : Prop} (s : A := by refine D ?_;refine cv ?_;exact ⟨rfl,rfl⟩) : A := s
theorem gR {A : Prop} (s : A := by refine eN ?_;exact ⟨rfl,rfl⟩) : A := s
theorem nr {A : Prop} (s : A := by refine D ?_;refine eN ?_;exact ⟨rfl,rfl⟩) : A := s
theorem nt {A : Prop} (s : A := by refine zH ?_;exact ⟨rfl,rfl⟩) : A := s
theorem rS {A : Prop} (s : A := by refine D ?_;refine zH ?_;exact ⟨rfl,rfl⟩) : A := s
theorem dM {A : Prop} (s : A := by refine JD ?_;exact ⟨rfl,rfl⟩) : A := s
theorem pY {A : Prop} (s : A := by refine D ?_;refine JD ?_;exact ⟨rfl,rfl⟩) : A := s
theorem ai {A : Prop} (s : A := by kernel_rfl) : A := s
theorem G {A : Prop} (s : A := by omega) : A := s
theorem nW {A B : Prop} (h : B) (s : Hid B -> A := by intro hQ;(repeat (first | refine GW.ret ?_ | refine jK ?_ | refine jJ ?_ | refine aW ?_ | refine jb ?_));exact hQ.1) : A := s ⟨h⟩
theorem aaE {A : Prop} (s : A := by first | rfl | assumption) : A := s
theorem iI {A : Prop} (s : A := by rintro k _ _ ⟨rfl,rfl,_⟩;exact ⟨rfl,rfl,rfl⟩) : A := s
theorem kh {A : Prop} (s : A := by exact ⟨_,_,Wk.aE ao,rfl,rfl⟩) : A := s
theorem kQ {A : Prop} (s : A := by exact ⟨_,_,Wk.aE ao,rfl,rfl,rfl⟩) : A := s
theorem ja {A : Prop} (s : A := by refine D ?_;exact ⟨_,_,Wk.aE ao,rfl,rfl⟩) : A := s
theorem et {A : Prop} (s : A := by exact ⟨rfl,rfl,rfl⟩) : A := s
theorem bq {A B : Prop} (h : B) (s : Hid B -> A := by intro hQ;refine aj ?_;refine D ?_;exact hQ.1) : A := s ⟨h⟩
theorem cl {A B : Prop} (h : B) (s : Hid B -> A := by intro hQ;refine D ?_;refine jY ?_;exact hQ.1) : A := s ⟨h⟩
theorem qR {A : Prop} (s : A := by exact ⟨⟨by omega,by omega⟩,by decide⟩) : A := s
theorem aR {A : Prop} (s : A := by decide) : A := s
def aC:Nat->Nat->Ot->Ot
 | _,0,r=>r
 | s,n+1,r=>.q s (aC (s+1) n r)
def ZC:List Nat->Ot->Ot
 | [],r=>r
 | i::l,r=>.q i (ZC l r)
theorem aK {P:Program} {m id:Nat} {ol:List Oper} {Q:du} {fr:List GV} {F:List Ob} (ord:Ot) (h:GO P ol.toArray (Q .normal) ord [] fr F) (hm:P.follows .mixedOrders=true:=by kernel_rfl) (eW:(Region.noSelect ol.toArray&&(ord.len==ol.length)&&ux ol.toArray ord (Array.replicate ol.toArray.size false))=true:=by kernel_rfl):GW P m (.region id ol.toArray true) Q fr F:=GW.draw ord hm eW h
end Go.Xg
namespace Go.Xw
open Go.Proofs Tryz
open Go.Xg (ai)
instance:aJ prog 6:=⟨ai⟩
instance:aJ prog 8:=⟨ai⟩
instance:aJ prog 10:=⟨ai⟩
instance:aJ prog 11:=⟨ai⟩
instance:aJ prog 12:=⟨ai⟩
instance:aJ prog 13:=⟨ai⟩
instance:aJ prog 14:=⟨ai⟩
instance:aJ prog 17:=⟨ai⟩
instance:aJ prog 18:=⟨ai⟩
instance:aJ prog 19:=⟨ai⟩
instance:aJ prog 20:=⟨ai⟩
instance:aJ prog 22:=⟨ai⟩
instance:aJ prog 23:=⟨ai⟩
instance:aJ prog 25:=⟨ai⟩
instance:aJ prog 28:=⟨ai⟩
instance:aJ prog 31:=⟨ai⟩
instance:aJ prog 32:=⟨ai⟩
instance:aJ prog 33:=⟨ai⟩
instance:aJ prog 34:=⟨ai⟩
instance:aJ prog 35:=⟨ai⟩
instance:aJ prog 37:=⟨ai⟩
instance:aJ prog 38:=⟨ai⟩
instance:aJ prog 39:=⟨ai⟩
instance:aJ prog 42:=⟨ai⟩
instance:aJ prog 43:=⟨ai⟩
instance:aJ prog 44:=⟨ai⟩
instance:aJ prog 46:=⟨ai⟩
instance:aJ prog 47:=⟨ai⟩
instance:aJ prog 48:=⟨ai⟩
instance:aJ prog 49:=⟨ai⟩
instance:aJ prog 50:=⟨ai⟩
instance:aJ prog 51:=⟨ai⟩
instance:aJ prog 52:=⟨ai⟩
instance:aJ prog 53:=⟨ai⟩
instance:aJ prog 54:=⟨ai⟩
instance:aJ prog 55:=⟨ai⟩
instance:aJ prog 56:=⟨ai⟩
instance:aJ prog 57:=⟨ai⟩
instance:aJ prog 58:=⟨ai⟩
instance:aJ prog 59:=⟨ai⟩
instance:aJ prog 60:=⟨ai⟩
instance:aJ prog 61:=⟨ai⟩
instance:aJ prog 62:=⟨ai⟩
instance:aJ prog 63:=⟨ai⟩
instance:aJ prog 64:=⟨ai⟩
instance:aJ prog 65:=⟨ai⟩
instance:aJ prog 66:=⟨ai⟩
instance:aJ prog 67:=⟨ai⟩
instance:aJ prog 76:=⟨ai⟩
instance:aJ prog 77:=⟨ai⟩
instance:aJ prog 78:=⟨ai⟩
instance:aJ prog 79:=⟨ai⟩
instance:aJ prog 80:=⟨ai⟩
instance:aJ prog 81:=⟨ai⟩
instance:aJ prog 82:=⟨ai⟩
instance:aJ prog 84:=⟨ai⟩
instance:aJ prog 86:=⟨ai⟩
instance:aJ prog 87:=⟨ai⟩
instance:aJ prog 88:=⟨ai⟩
instance:aJ prog 89:=⟨ai⟩
instance:aJ prog 91:=⟨ai⟩
instance:aJ prog 93:=⟨ai⟩
instance:aJ prog 94:=⟨ai⟩
instance:aJ prog 95:=⟨ai⟩
instance:aJ prog 96:=⟨ai⟩
instance:aJ prog 97:=⟨ai⟩
instance:aJ prog 98:=⟨ai⟩
instance:aJ prog 99:=⟨ai⟩
instance:aJ prog 100:=⟨ai⟩
instance:aJ prog 101:=⟨ai⟩
instance:aJ prog 102:=⟨ai⟩
instance:aJ prog 103:=⟨ai⟩
instance:aJ prog 104:=⟨ai⟩
instance:aJ prog 105:=⟨ai⟩
instance:aJ prog 106:=⟨ai⟩
instance:aJ prog 107:=⟨ai⟩
instance:aJ prog 108:=⟨ai⟩
instance:aJ prog 109:=⟨ai⟩
instance:aJ prog 110:=⟨ai⟩
instance:aJ prog 111:=⟨ai⟩
instance:aJ prog 112:=⟨ai⟩
instance:aJ prog 113:=⟨ai⟩
instance:aJ prog 114:=⟨ai⟩
instance:aJ prog 115:=⟨ai⟩
instance:aJ prog 116:=⟨ai⟩
instance:aJ prog 117:=⟨ai⟩
instance:aJ prog 118:=⟨ai⟩
instance:aJ prog 119:=⟨ai⟩
instance:aJ prog 120:=⟨ai⟩
instance:aJ prog 121:=⟨ai⟩
instance:aJ prog 122:=⟨ai⟩
instance:aJ prog 123:=⟨ai⟩
instance:aJ prog 124:=⟨ai⟩
instance:aJ prog 125:=⟨ai⟩
instance:aJ prog 126:=⟨ai⟩
instance:aJ prog 127:=⟨ai⟩
instance:aJ prog 134:=⟨ai⟩
instance:aJ prog 135:=⟨ai⟩
instance:aJ prog 136:=⟨ai⟩
instance:aJ prog 138:=⟨ai⟩
instance:aJ prog 139:=⟨ai⟩
instance:aJ prog 140:=⟨ai⟩
instance:aJ prog 141:=⟨ai⟩
instance:aJ prog 142:=⟨ai⟩
instance:aJ prog 143:=⟨ai⟩
instance:aJ prog 144:=⟨ai⟩
instance:aJ prog 145:=⟨ai⟩
instance:aJ prog 146:=⟨ai⟩
instance:aJ prog 148:=⟨ai⟩
instance:aJ prog 149:=⟨ai⟩
instance:aJ prog 150:=⟨ai⟩
instance:aJ prog 151:=⟨ai⟩
instance:aJ prog 152:=⟨ai⟩
instance:aJ prog 153:=⟨ai⟩
instance:aJ prog 154:=⟨ai⟩
instance:aJ prog 155:=⟨ai⟩
instance:aJ prog 156:=⟨ai⟩
instance:aJ prog 157:=⟨ai⟩
instance:aJ prog 158:=⟨ai⟩
instance:aJ prog 159:=⟨ai⟩
instance:aJ prog 160:=⟨ai⟩
instance:aJ prog 161:=⟨ai⟩
instance:aJ prog 162:=⟨ai⟩
instance:aJ prog 163:=⟨ai⟩
instance:aJ prog 164:=⟨ai⟩
instance:aJ prog 165:=⟨ai⟩
instance:aJ prog 166:=⟨ai⟩
instance:aJ prog 167:=⟨ai⟩
instance:aJ prog 168:=⟨ai⟩
instance:aJ prog 169:=⟨ai⟩
instance:aJ prog 176:=⟨ai⟩
instance:aJ prog 177:=⟨ai⟩
instance:aJ prog 178:=⟨ai⟩
instance:aJ prog 179:=⟨ai⟩
instance:aJ prog 180:=⟨ai⟩
instance:aJ prog 181:=⟨ai⟩
instance:aJ prog 182:=⟨ai⟩
instance:aJ prog 183:=⟨ai⟩
instance:aJ prog 184:=⟨ai⟩
instance:aJ prog 185:=⟨ai⟩
instance:aJ prog 186:=⟨ai⟩
instance:aJ prog 187:=⟨ai⟩
instance:aJ prog 188:=⟨ai⟩
instance:aJ prog 189:=⟨ai⟩
instance:aJ prog 190:=⟨ai⟩
instance:aJ prog 191:=⟨ai⟩
instance:aJ prog 192:=⟨ai⟩
instance:aJ prog 194:=⟨ai⟩
instance:aJ prog 195:=⟨ai⟩
instance:aJ prog 196:=⟨ai⟩
instance:aJ prog 197:=⟨ai⟩
instance:aJ prog 198:=⟨ai⟩
instance:aJ prog 199:=⟨ai⟩
instance:aJ prog 200:=⟨ai⟩
instance:aJ prog 202:=⟨ai⟩
instance:aJ prog 204:=⟨ai⟩
instance:aJ prog 205:=⟨ai⟩
instance:aJ prog 206:=⟨ai⟩
instance:aJ prog 207:=⟨ai⟩
instance:aJ prog 208:=⟨ai⟩
instance:aJ prog 209:=⟨ai⟩
instance:aJ prog 210:=⟨ai⟩
instance:aJ prog 222:=⟨ai⟩
instance:aJ prog 223:=⟨ai⟩
instance:aJ prog 224:=⟨ai⟩
instance:aJ prog 225:=⟨ai⟩
instance:aJ prog 226:=⟨ai⟩
instance:aJ prog 227:=⟨ai⟩
instance:aJ prog 228:=⟨ai⟩
instance:aJ prog 229:=⟨ai⟩
instance:aJ prog 230:=⟨ai⟩
instance:aJ prog 231:=⟨ai⟩
instance:aJ prog 232:=⟨ai⟩
instance:aJ prog 233:=⟨ai⟩
instance:aJ prog 234:=⟨ai⟩
instance:aJ prog 235:=⟨ai⟩
instance:aJ prog 236:=⟨ai⟩
instance:aJ prog 238:=⟨ai⟩
instance:aJ prog 240:=⟨ai⟩
instance:aJ prog 245:=⟨ai⟩
instance:aJ prog 246:=⟨ai⟩
instance:aJ prog 247:=⟨ai⟩
instance:aJ prog 248:=⟨ai⟩
instance:aJ prog 255:=⟨ai⟩
instance:aJ prog 258:=⟨ai⟩
instance:aJ prog 259:=⟨ai⟩
instance:aJ prog 260:=⟨ai⟩
instance:aJ prog 261:=⟨ai⟩
instance:aJ prog 262:=⟨ai⟩
instance:aJ prog 263:=⟨ai⟩
instance:aJ prog 271:=⟨ai⟩
instance:aJ prog 272:=⟨ai⟩
instance:aJ prog 275:=⟨ai⟩
instance:aJ prog 276:=⟨ai⟩
instance:aJ prog 277:=⟨ai⟩
instance:aJ prog 282:=⟨ai⟩
instance:aJ prog 285:=⟨ai⟩
instance:aJ prog 286:=⟨ai⟩
instance:aJ prog 289:=⟨ai⟩
instance:aJ prog 290:=⟨ai⟩
instance:aJ prog 291:=⟨ai⟩
instance:Ty prog 3 false 1:=⟨ai,ai⟩
instance:qY prog 3 (.int .i64 (0)):=⟨ai⟩
instance:Go.Xg.JQ prog 3 .i64:=⟨ai⟩
instance:Go.Xg.JQ prog 5 .u8:=⟨ai⟩
instance:Ty prog 9 false 1:=⟨ai,ai⟩
instance:qo prog 9:=⟨ai⟩
instance:Ty prog 22 false 1:=⟨ai,ai⟩
instance:qY prog 22 (.slice none 0 0):=⟨ai⟩
instance:nX prog 22 9 1:=⟨ai,ai⟩
instance:oZ prog 22 9 1 16:=⟨ai⟩
instance:qn prog 22 9 1 [(.string ⟨#[]⟩)]:=⟨ai,ai,ai,rfl,by decide,fun _=>rfl⟩
instance:Ty prog 23 false 1:=⟨ai,ai⟩
instance:nX prog 23 101 2:=⟨ai,ai⟩
instance:Ty prog 24 false 1:=⟨ai,ai⟩
instance:nX prog 24 103 3:=⟨ai,ai⟩
instance:Ty prog 25 false 1:=⟨ai,ai⟩
instance:nX prog 25 105 5:=⟨ai,ai⟩
instance:Ty prog 27 true 4:=⟨ai,ai⟩
instance:dO prog 27 0 0 1 false:=⟨ai⟩
instance:dO prog 27 1 1 1 false:=⟨ai⟩
instance:dO prog 27 2 2 1 false:=⟨ai⟩
instance:dO prog 27 3 3 1 false:=⟨ai⟩
instance:Ty prog 29 false 1:=⟨ai,ai⟩
instance:nX prog 29 56 2:=⟨ai,ai⟩
instance:oZ prog 29 56 2 24:=⟨ai⟩
instance:qn prog 29 56 2 [(.string ⟨#[]⟩),(.int .i64 (0))]:=⟨ai,ai,ai,rfl,by decide,fun h=>by cases h⟩
instance:Ty prog 30 false 1:=⟨ai,ai⟩
instance:nX prog 30 58 3:=⟨ai,ai⟩
instance:oZ prog 30 58 3 48:=⟨ai⟩
instance:qn prog 30 58 3 [(.string ⟨#[]⟩),(.slice none 0 0),(.int .i64 (0))]:=⟨ai,ai,ai,rfl,by decide,fun h=>by cases h⟩
instance:Ty prog 31 false 1:=⟨ai,ai⟩
instance:nX prog 31 62 5:=⟨ai,ai⟩
instance:oZ prog 31 62 5 64:=⟨ai⟩
instance:qn prog 31 62 5 [(.int .i64 (0)),(.int .i64 (0)),(.int .i64 (0)),(.string ⟨#[]⟩),(.slice none 0 0)]:=⟨ai,ai,ai,rfl,by decide,fun h=>by cases h⟩
instance:Ty prog 33 true 4:=⟨ai,ai⟩
instance:qY prog 33 (.agg #[(.slice none 0 0),(.slice none 0 0),(.slice none 0 0),(.slice none 0 0)]):=⟨ai⟩
instance:dO prog 33 0 0 1 false:=⟨ai⟩
instance:dO prog 33 1 1 1 false:=⟨ai⟩
instance:dO prog 33 2 2 1 false:=⟨ai⟩
instance:dO prog 33 3 3 1 false:=⟨ai⟩
instance:uN prog 33 [(0,1),(1,1),(2,1),(3,1)] [(.slice none 0 0),(.slice none 0 0),(.slice none 0 0),(.slice none 0 0)]:=⟨ai,ai⟩
instance:Ty prog 56 true 2:=⟨ai,ai⟩
instance:qY prog 56 (.agg #[(.string ⟨#[]⟩),(.int .i64 (0))]):=⟨ai⟩
instance:dO prog 56 0 0 1 false:=⟨ai⟩
instance:dO prog 56 1 1 1 false:=⟨ai⟩
instance:uN prog 56 [(0,1),(1,1)] [(.string ⟨#[]⟩),(.int .i64 (0))]:=⟨ai,ai⟩
instance:Ty prog 58 true 3:=⟨ai,ai⟩
instance:qY prog 58 (.agg #[(.string ⟨#[]⟩),(.slice none 0 0),(.int .i64 (0))]):=⟨ai⟩
instance:dO prog 58 0 0 1 false:=⟨ai⟩
instance:dO prog 58 1 1 1 false:=⟨ai⟩
instance:dO prog 58 2 2 1 false:=⟨ai⟩
instance:uN prog 58 [(0,1),(1,1),(2,1)] [(.string ⟨#[]⟩),(.slice none 0 0),(.int .i64 (0))]:=⟨ai,ai⟩
instance:Ty prog 60 false 1:=⟨ai,ai⟩
instance:nX prog 60 3 1:=⟨ai,ai⟩
instance:oZ prog 60 3 1 8:=⟨ai⟩
instance:qn prog 60 3 1 [(.int .i64 (0))]:=⟨ai,ai,ai,rfl,by decide,fun _=>rfl⟩
instance:Ty prog 62 true 5:=⟨ai,ai⟩
instance:qY prog 62 (.agg #[(.int .i64 (0)),(.int .i64 (0)),(.int .i64 (0)),(.string ⟨#[]⟩),(.slice none 0 0)]):=⟨ai⟩
instance:dO prog 62 0 0 1 false:=⟨ai⟩
instance:dO prog 62 1 1 1 false:=⟨ai⟩
instance:dO prog 62 2 2 1 false:=⟨ai⟩
instance:dO prog 62 3 3 1 false:=⟨ai⟩
instance:dO prog 62 4 4 1 false:=⟨ai⟩
instance:uN prog 62 [(0,1),(1,1),(2,1),(3,1),(4,1)] [(.int .i64 (0)),(.int .i64 (0)),(.int .i64 (0)),(.string ⟨#[]⟩),(.slice none 0 0)]:=⟨ai,ai⟩
instance:Ty prog 63 false 1:=⟨ai,ai⟩
instance:nX prog 63 65 6:=⟨ai,ai⟩
instance:oZ prog 63 65 6 88:=⟨ai⟩
instance:qn prog 63 65 6 [(.int .i64 (0)),(.int .i64 (0)),(.int .i64 (0)),(.string ⟨#[]⟩),(.slice none 0 0),(.slice none 0 0)]:=⟨ai,ai,ai,rfl,by decide,fun h=>by cases h⟩
instance:Ty prog 65 true 6:=⟨ai,ai⟩
instance:qY prog 65 (.agg #[(.int .i64 (0)),(.int .i64 (0)),(.int .i64 (0)),(.string ⟨#[]⟩),(.slice none 0 0),(.slice none 0 0)]):=⟨ai⟩
instance:dO prog 65 0 0 5 true:=⟨ai⟩
instance:dO prog 65 1 5 1 false:=⟨ai⟩
instance:uN prog 65 [(0,5),(5,1)] [(.int .i64 (0)),(.int .i64 (0)),(.int .i64 (0)),(.string ⟨#[]⟩),(.slice none 0 0),(.slice none 0 0)]:=⟨ai,ai⟩
instance:Ty prog 76 false 1:=⟨ai,ai⟩
instance:Ty prog 89 false 1:=⟨ai,ai⟩
instance:nX prog 89 131 1:=⟨ai,ai⟩
instance:oZ prog 89 131 1 8:=⟨ai⟩
instance:qn prog 89 131 1 [(.pointer none)]:=⟨ai,ai,ai,rfl,by decide,fun _=>rfl⟩
instance:Ty prog 101 true 2:=⟨ai,ai⟩
instance:dO prog 101 0 0 1 false:=⟨ai⟩
instance:dO prog 101 1 1 1 false:=⟨ai⟩
instance:Ty prog 103 true 3:=⟨ai,ai⟩
instance:dO prog 103 0 0 1 false:=⟨ai⟩
instance:dO prog 103 1 1 1 false:=⟨ai⟩
instance:dO prog 103 2 2 1 false:=⟨ai⟩
instance:Ty prog 105 true 5:=⟨ai,ai⟩
instance:dO prog 105 0 0 1 false:=⟨ai⟩
instance:dO prog 105 1 1 1 false:=⟨ai⟩
instance:dO prog 105 2 2 1 false:=⟨ai⟩
instance:dO prog 105 3 3 1 false:=⟨ai⟩
instance:dO prog 105 4 4 1 false:=⟨ai⟩
instance:Ty prog 118 false 1:=⟨ai,ai⟩
instance:qY prog 118 .nilFunc:=⟨ai⟩
instance:dO prog 126 0 0 4 true:=⟨ai⟩
instance:dO prog 126 1 4 1 false:=⟨ai⟩
instance:dO prog 126 2 5 1 false:=⟨ai⟩
instance:dO prog 126 3 6 1 false:=⟨ai⟩
instance:uN prog 126 [(0,4),(4,1),(5,1),(6,1)] [(.slice none 0 0),(.slice none 0 0),(.slice none 0 0),(.slice none 0 0),(.slice none 0 0),(.int .i64 (0)),(.int .i64 (0))]:=⟨ai,ai⟩
instance:Ty prog 131 false 1:=⟨ai,ai⟩
instance:Ty prog 134 false 1:=⟨ai,ai⟩
instance:Ty prog 135 false 1:=⟨ai,ai⟩
instance:Ty prog 136 false 1:=⟨ai,ai⟩
instance:nX prog 136 183 4:=⟨ai,ai⟩
instance:oZ prog 136 183 4 40:=⟨ai⟩
instance:qn prog 136 183 4 [(.int .i64 (0)),(.int .i64 (0)),(.string ⟨#[]⟩),(.int .i64 (0))]:=⟨ai,ai,ai,rfl,by decide,fun h=>by cases h⟩
instance:Ty prog 157 false 1:=⟨ai,ai⟩
instance:Go.Xg.Lm prog 157:=Go.Xg.Lm.mk' (e:=5) (ai) (ai)
instance:nX prog 157 5 1:=⟨ai,ai⟩
instance:qn prog 157 5 1 [(.int .u8 (0))]:=⟨ai,ai,ai,rfl,by decide,fun _=>rfl⟩
instance:dO prog 164 0 0 1 false:=⟨ai⟩
instance:dO prog 164 1 1 1 false:=⟨ai⟩
instance:dO prog 164 2 2 1 false:=⟨ai⟩
instance:dO prog 164 3 3 1 false:=⟨ai⟩
instance:dO prog 164 4 4 1 false:=⟨ai⟩
instance:uN prog 164 [(0,1),(1,1),(2,1),(3,1),(4,1)] [(.slice none 0 0),(.int .i64 (0)),(.int .i64 (0)),(.int .i64 (0)),(.int .i64 (0))]:=⟨ai,ai⟩
instance:dO prog 170 0 0 5 true:=⟨ai⟩
instance:dO prog 170 1 5 1 false:=⟨ai⟩
instance:uN prog 170 [(0,5),(5,1)] [(.int .i64 (0)),(.int .i64 (0)),(.int .i64 (0)),(.string ⟨#[]⟩),(.slice none 0 0),(.slice none 0 0)]:=⟨ai,ai⟩
instance:Ty prog 172 true 2:=⟨ai,ai⟩
instance:qY prog 172 (.agg #[.nilFunc,.nilFunc]):=⟨ai⟩
instance:dO prog 172 0 0 1 false:=⟨ai⟩
instance:dO prog 172 1 1 1 false:=⟨ai⟩
instance:uN prog 172 [(0,1),(1,1)] [.nilFunc,.nilFunc]:=⟨ai,ai⟩
instance:Ty prog 183 true 4:=⟨ai,ai⟩
instance:qY prog 183 (.agg #[(.int .i64 (0)),(.int .i64 (0)),(.string ⟨#[]⟩),(.int .i64 (0))]):=⟨ai⟩
instance:dO prog 183 0 0 1 false:=⟨ai⟩
instance:dO prog 183 1 1 1 false:=⟨ai⟩
instance:dO prog 183 2 2 1 false:=⟨ai⟩
instance:dO prog 183 3 3 1 false:=⟨ai⟩
instance:uN prog 183 [(0,1),(1,1),(2,1),(3,1)] [(.int .i64 (0)),(.int .i64 (0)),(.string ⟨#[]⟩),(.int .i64 (0))]:=⟨ai,ai⟩
instance:dO prog 188 0 0 1 false:=⟨ai⟩
instance:dO prog 188 1 1 1 false:=⟨ai⟩
instance:dO prog 188 2 2 1 false:=⟨ai⟩
instance:dO prog 188 3 3 1 false:=⟨ai⟩
instance:dO prog 188 4 4 1 false:=⟨ai⟩
instance:dO prog 188 5 5 1 false:=⟨ai⟩
instance:dO prog 188 6 6 4 true:=⟨ai⟩
instance:uN prog 188 [(0,1),(1,1),(2,1),(3,1),(4,1),(5,1),(6,4)] [(.slice none 0 0),(.int .i64 (0)),(.int .i64 (0)),(.int .i64 (0)),(.int .i64 (0)),(.slice none 0 0),(.slice none 0 0),(.slice none 0 0),(.slice none 0 0),(.slice none 0 0)]:=⟨ai,ai⟩
instance:Ty prog 202 false 1:=⟨ai,ai⟩
instance:qY prog 204 (.agg #[(.pointer none),(.slice none 0 0)]):=⟨ai⟩
instance:dO prog 204 0 0 1 false:=⟨ai⟩
instance:dO prog 204 1 1 1 false:=⟨ai⟩
instance:nX prog 211 22 1:=⟨ai,ai⟩
instance:qn prog 211 22 1 [(.slice none 0 0)]:=⟨ai,ai,ai,rfl,by decide,fun _=>rfl⟩
end Go.Xw
set_option maxHeartbeats 1000000
namespace Go.Xg
open GV (U)
open Go.RowKit Go.Xw Go.Proofs Tryz
open Go.Xp (Tok Nd T bz one levels)
open Go.Sp
attribute [local irreducible] GW GL GO YG GC GA be bd
def dw (t:Tok):List GV:=[.v (ii t.kind),.v (ii t.n),.v (sv t.s),.v (ii t.at_)]
theorem OC (t:Tok):GF prog 233 [.agg (dw t)] [] (.v (sv (bz t))) []:=by
 refine ah func233 ntmps233 ?_;refine GW.cond rfl (fun h=>?_) (fun h=>?_)
 ·refine D ?_;refine cv ?_
  have h:t.kind≠3:=by simpa using h
  rw [bz,M h];exact ⟨rfl,rfl⟩
 ·refine D ?_;refine cv ?_
  have h:t.kind=3:=by simpa using h
  rw [bz,ab h];exact ⟨rfl,rfl⟩
abbrev jx (l:List Tok):GV:=.sl 4 (l.map dw)
abbrev cI (p:RS):Ob:=.box 164 [jx p.l,.v (ii p.i),.v (ii p.e),.v (ii p.code),.v (ii p.at_)]
theorem lq {l:List Tok} {i:Nat} {t:Tok} (h:l[i]?=some t):(l.map dw)[i]?=some (dw t):=by rw [aV,h];rfl
theorem lK (p:RS) (hp:p.ok):GF prog 189 [.loc 0 0] [cI p] (.v (ii p.place)) [cI p]:=by
 obtain ⟨mz,eh⟩:=hp
 cases ht:p.l[p.i]? with
 | some t =>
  have hr:=lq ht;have ak:p.i < p.l.length:=(bp ht).1
  have hd:decide ((p.i:Int) < ((p.l.map dw).length:Int))=true:=by simpa using ak
  refine ah func189 ntmps189 ?_;refine aK (aC 0 10 .nil) ?_;refine bq ?_;refine aK (aC 0 12 .nil) ?_;refine bq ?_;refine cv ?_;rw [RS.place,ht];exact ⟨rfl,rfl⟩
 | none =>
  have ak:p.l.length<=p.i:=qV ht
  have hd:decide ((p.i:Int) < ((p.l.map dw).length:Int))=false:=by simpa using ak
  refine ah func189 ntmps189 ?_;refine aK (aC 0 10 .nil) ?_;refine bq ?_;refine cv ?_;rw [RS.place,ht];exact ⟨rfl,rfl⟩
theorem dr (p:RS) (k:Nat) (hp:p.ok) (hk:k<=1):GF prog 191 [.loc 0 0,.v (ii k)] [cI p] (.v (sv (p.sign k))) [cI p]:=by
 obtain ⟨mz,eh⟩:=hp
 by_cases hc:p.code=0
 ·have dP:(p.code != 0)=false:=by simpa using hc
  cases ht:p.l[p.i+k]? with
  | some t =>
   have hr:=lq ht;have ak:p.i+k < p.l.length:=(bp ht).1
   have hd:decide (((p.l.map dw).length:Int)<=((p.i+k:Nat):Int))=false:=by simp;omega
   refine ah func191 ntmps191 ?_;refine aK (aC 0 19 .nil) ?_;refine bq ?_;refine aK (aC 0 12 (.a 12 (.q 13 .nil))) ?_;refine aj ?_;refine aI [] (OC t) ?_;refine D ?_;refine cv ?_;rw [RS.sign,ab hc,ht];exact ⟨rfl,rfl⟩
  | none =>
   have ak:p.l.length<=p.i+k:=qV ht
   have hd:decide (((p.l.map dw).length:Int)<=((p.i+k:Nat):Int))=true:=by simp;omega
   refine ah func191 ntmps191 ?_;refine aK (aC 0 19 .nil) ?_;refine bq ?_;refine cv ?_;rw [RS.sign,ab hc,ht];exact ⟨rfl,rfl⟩
 ·have dP:(p.code != 0)=true:=by simpa using hc
  refine ah func191 ntmps191 ?_;refine aK (aC 0 19 .nil) ?_;refine bq ?_;refine cv ?_;rw [RS.sign,M hc];exact ⟨rfl,rfl⟩
theorem mV (p:RS) (c a:Int):GF prog 232 [.loc 0 0,.v (ii c),.v (ii a)] [cI p] (.tup []) [cI (p.fail c a)]:=by
 refine ah func232 ntmps232 ?_;refine GW.cond rfl (fun h=>?_) (fun h=>?_)
 ·refine D ?_;refine eN ?_
  have h:p.code=0:=by simpa using h
  rw [RS.fail,ab h];exact ⟨rfl,rfl⟩
 ·refine D ?_;refine eN ?_
  have h:¬ p.code=0:=by simpa using h
  rw [RS.fail,M h];exact ⟨rfl,rfl⟩
theorem dq (p:RS) (s:ae) (hp:p.ok) (hs:s≠[]):GF prog 190 [.loc 0 0,.v (sv s)] [cI p] (.tup []) [cI (p.aP s)]:=by
 refine ah func190 ntmps190 ?_;refine hY [0] (dr p 0 hp aR) ?_
 by_cases h:p.sign 0=s
 ·have h':(!(p.sign 0==s))=false:=by simp [h]
  have hl:=(fZ h hs).1;obtain ⟨mz,eh⟩:=hp;refine D ?_;refine eN ?_;rw [RS.aP,ab h];exact ⟨rfl,rfl⟩
 ·have h':(!(p.sign 0==s))=true:=by simpa using h
  refine D ?_;refine V [0] (lK p hp) ?_;refine V [0] (mV p 7 p.place) ?_;refine eN ?_;rw [RS.aP,M h];exact ⟨rfl,rfl⟩
theorem va (p:RS) (d:Nat) (hp:p.ok):GF prog 187 [.loc 0 0,.v (ii d)] [cI p] (.tup []) [cI (p.deep d)]:=by
 by_cases h:d > 60
 ·have h':decide ((60:Int) < (d:Int))=true:=by simp;omega
  refine ah func187 ntmps187 ?_;refine V [0] (lK p hp) ?_;refine V [0] (mV p 9 p.place) ?_;refine eN ?_;rw [RS.deep,ab h];exact ⟨rfl,rfl⟩
 ·have h':decide ((60:Int) < (d:Int))=false:=by simp;omega
  refine ah func187 ntmps187 ?_;refine eN ?_;rw [RS.deep,M h];exact ⟨rfl,rfl⟩
theorem yL (p:RS) (hp:p.ok):GF prog 234 [.loc 0 0] [cI p] (.v (sv p.name.1)) [cI p.name.2]:=by
 obtain ⟨mz,eh⟩:=id hp
 by_cases hc:p.code=0
 ·have dP:(p.code != 0)=false:=by simpa using hc
  cases ht:p.l[p.i]? with
  | some t =>
   have hr:=lq ht;have ak:p.i < p.l.length:=(bp ht).1
   have hd:decide (((p.l.map dw).length:Int)<=(p.i:Int))=false:=by simp;omega
   by_cases hk:t.kind=2
   ·have mx:(t.kind != 2)=false:=by simpa using hk
    by_cases hs:t.s.length > 12
    ·have o9:decide ((12:Int) < (t.s.length:Int))=true:=by simp;omega
     refine ah func234 ntmps234 ?_;refine aK (aC 0 24 .nil) ?_;refine bq ?_;refine aK (aC 0 10 (.a 10 (.a 11 .nil))) ?_;refine bq ?_;refine V [0] (mV p 8 t.at_) ?_;refine cv ?_;rw [RS.name,ab hc,ht];simp only [ab hk,ab hs];exact ⟨rfl,rfl⟩
    ·have o9:decide ((12:Int) < (t.s.length:Int))=false:=by simp;omega
     refine ah func234 ntmps234 ?_;refine aK (aC 0 24 .nil) ?_;refine bq ?_;refine aK (aC 0 10 (.a 10 (.a 11 .nil))) ?_;refine bq ?_;refine cv ?_;rw [RS.name,ab hc,ht];simp only [ab hk,M hs];exact ⟨rfl,rfl⟩
   ·have mx:(t.kind != 2)=true:=by simpa using hk
    refine ah func234 ntmps234 ?_;refine aK (aC 0 24 .nil) ?_;refine bq ?_;refine V [0] (lK p hp) ?_;refine V [0] (mV p 7 p.place) ?_;refine cv ?_;rw [RS.name,ab hc,ht];simp only [M hk];exact ⟨rfl,rfl⟩
  | none =>
   have ak:p.l.length<=p.i:=qV ht
   have hd:decide (((p.l.map dw).length:Int)<=(p.i:Int))=true:=by simp;omega
   refine ah func234 ntmps234 ?_;refine aK (aC 0 24 .nil) ?_;refine bq ?_;refine V [0] (lK p hp) ?_;refine V [0] (mV p 7 p.place) ?_;refine cv ?_;rw [RS.name,ab hc,ht];exact ⟨rfl,rfl⟩
 ·have dP:(p.code != 0)=true:=by simpa using hc
  refine ah func234 ntmps234 ?_;refine cv ?_;rw [RS.name,M hc];exact ⟨rfl,rfl⟩
abbrev ints (l:List Int):GV:=.sl 1 (l.map fun i=>[.v (ii i)])
abbrev strs (l:List ae):GV:=.sl 1 (l.map fun s=>[.v (sv s)])
mutual
def Tt:T->List GV
 | .mk n k=>[.v (ii n.kind),.v (ii n.at_),.v (ii n.n),.v (sv n.s),ints n.kids,.sl 6 (aX k)]
def aX:List T->List (List GV)
 | []=>[]
 | t::r=>Tt t::aX r
end
abbrev cT (t:T):List GV:=[.v (ii t.n.kind),.v (ii t.n.at_),.v (ii t.n.n),.v (sv t.n.s),ints t.n.kids,.sl 6 (aX t.kids)]
theorem vM (t:T):Tt t=cT t:=by
 cases t;rfl
theorem gO (k a:Int) (s:ae) (l:List T) (rows:List (List GV)) (h:aX l=rows):GF prog 188 [.v (ii k),.v (ii a),.v (sv s),.sl 6 rows] [] (.agg (cT (one k a s l))) []:=by
 subst h;refine ah func188 ntmps188 ?_;refine rU ?_;exact ⟨_,ik,rfl,rfl⟩
theorem kx:GF prog 259 [] [] (.sl 1 (levels.map fun l=>[strs l])) []:=by
 refine ah func259 ntmps259 ?_
 iterate 10 (refine cw ?_)
 exact ay
theorem Eu {xs:List ae} {k:Nat} {s x:ae} (h:xs[k]?=some x):(xs.take (k+1)).contains s=((xs.take k).contains s || (x==s)):=by
 rw [cm,h,List.contains_append];show (_ || [x].contains s)=_
 congr 1
 rw [List.contains_cons,List.contains_nil,Bool.or_false];exact Bool.beq_comm
theorem jo (xs:List ae) (s:ae) (hl:xs.length<=1099511627776):GF prog 25 [strs xs,.v (sv s)] [] (.v (.bool (xs.contains s))) []:=by
 refine ah func25 ntmps25 ?_;refine GW.range (xs.map fun s=>[GV.v (sv s)]).length (fun k fr F=>fr=[strs xs,.v (sv s),U,U,U,U,U,strs xs,.v (ii ((xs.map fun s=>[GV.v (sv s)]).length:Int)),.v (ii k),U,U,U,U,U,U,U]/\F=[]/\(xs.take k).contains s=false) ?_ (by simpa using hl) ?_ ?_ ?_
 ·exact kQ
 ·exact iI
 ·rintro k _ _ ak ⟨rfl,rfl,hc⟩
  have ak:k < xs.length:=by simpa using ak
  have hx:xs[k]?=some xs[k]:=by simp [ak]
  have hr:(xs.map fun s=>[GV.v (sv s)])[k]?=some [.v (sv xs[k])]:=by simp [ak]
  have fT:=Eu (s:=s) hx;refine D ?_;refine GW.cond rfl (fun I=>?_) (fun I=>?_)
  ·refine D ?_;refine cv ?_
   have h3:xs[k]=s:=by simpa using I
   have:s∈xs:=by rw [<-h3];exact getElem_mem _
   refine ⟨?_,rfl⟩;show GV.v (.bool true)=_;rw [nu.2 this]
  ·refine D ?_;exact ⟨rfl,rfl,_,_,Wk.aE ao,rfl,rfl,by rw [fT,hc,I];rfl⟩
 ·rintro _ _ ⟨rfl,rfl,hc⟩;refine D ?_;refine cv ?_
  have hc:xs.contains s=false:=by simpa using hc
  refine ⟨?_,rfl⟩;show GV.v (.bool false)=_;rw [hc]
end Go.Xg
namespace Go.Xg
open Go.RowKit Go.Xw
section
variable {P:Program} {m:Nat} {Q:du} {fr:List GV} {F:List Ob}
theorem GW.Ri {c y:Code} {B:Nat} (K:List GV->List Ob->Prop) (L:GW P m c (bd B (be (Bd m K) Q)) fr F) (I:∀ fr F,K fr F->GW P m y Q fr F):GW P m c (bd B (be (GW P m y Q) Q)) fr F:=by
 refine L.mono fun e fr F hq=>?_
 have key:∀ fr F,Bd m K fr F->GW P m y Q fr F:=fun fr F ⟨cJ,aO,hw,hk⟩=>GW.wk hw (I _ _ hk)
 cases e with
 | normal=>exact key _ _ hq
 | exit n =>
  simp only [bd] at hq |-;split
  ·rename_i hn;rw [ab hn] at hq;exact key _ _ hq
  ·rename_i hn;rw [M hn] at hq;exact hq
 | _=>exact hq
end
section
variable {P:Program} {fn:Func} {m:Nat} {R:GV->List Ob->Prop} {fr:List GV} {F:List Ob} {e:Exit}
theorem QI {n:Nat} {t u:Tmp} {T:TypeId} {k:Nat} [hT:Ty P T true k] {i:Nat} {E:TypeId} {cs:List GV} {g:GV} (hr:fn.results=#[.cell t T,.tmp u]) (he:e=.normal\/e=.ret) (hg:cB fr t=.loc i 0) (bG:F[i]?=some (.box E cs)) (hk:cs.length=k) (fu:cB fr u=g)
  (hm:m<=n) (hl:xP n (F.take n)=true) (lD:(GV.tup [.agg cs,g]).lt n=true) (h:R (.tup [.agg cs,g]) (F.take n)):qv P fn m R e fr F :=
 ⟨he,fun B K β w l hB hI hF=>by
  obtain ⟨b,vs,L,I,h3,h4⟩:=hI.ob i _ bG
  have hp:nth l t=.pointer (some ⟨b,0,none⟩):=by
   have:=hF.nth t;rw [hg] at this;generalize nth l t=v at this
   cases this with
   | loc _ _ b' bC=>rw [L] at bC;cases bC;rfl
  have kZ:l.toArray.getD t undef=.pointer (some ⟨b,0,none⟩):=by rw [jM,hp]
  have BC:=mG (P:=P) (w:=w) (t:=T) (b:=b) (o:=0) (vs:=vs) (k:=k) (by rw [h3.1,hk]) (fun j v hj=>by
   rw [cL,cell_of_row w b j _ E (0,0) I];simpa using hj)
  have xb:l[t]?.getD undef=.pointer (some ⟨b,0,none⟩):=by simpa using kZ
  refine ⟨.tuple #[.agg vs.toArray,nth l u],K,ij (below n) β,.tup [.agg cs,g],F.take n,?_,hI.cut G hl,?_,h⟩
  ·rw [<-jM l u];simp [results,hr,xb,asAddr,BC]
  ·refine Rel.res ?_ lD;subst fu;have hc:bh K β [.agg vs.toArray,nth l u] [.agg cs,cB fr u]:=.cons (.agg vs cs h3.1 h3.2) (.cons (hF.nth u) .nil)
   exact .tup _ _ hc.1 hc.2⟩
theorem Mk {n:Nat} {t u s:Tmp} {T:TypeId} {k:Nat} [hT:Ty P T true k] {i:Nat} {E:TypeId} {cs:List GV} {g g':GV} (hr:fn.results=#[.cell t T,.tmp u,.tmp s]) (he:e=.normal\/e=.ret) (hg:cB fr t=.loc i 0) (bG:F[i]?=some (.box E cs)) (hk:cs.length=k) (fu:cB fr u=g) (Xn:cB fr s=g')
  (hm:m<=n) (hl:xP n (F.take n)=true) (lD:(GV.tup [.agg cs,g,g']).lt n=true) (h:R (.tup [.agg cs,g,g']) (F.take n)):qv P fn m R e fr F :=
 ⟨he,fun B K β w l hB hI hF=>by
  obtain ⟨b,vs,L,I,h3,h4⟩:=hI.ob i _ bG
  have hp:nth l t=.pointer (some ⟨b,0,none⟩):=by
   have:=hF.nth t;rw [hg] at this;generalize nth l t=v at this
   cases this with
   | loc _ _ b' bC=>rw [L] at bC;cases bC;rfl
  have kZ:l.toArray.getD t undef=.pointer (some ⟨b,0,none⟩):=by rw [jM,hp]
  have BC:=mG (P:=P) (w:=w) (t:=T) (b:=b) (o:=0) (vs:=vs) (k:=k) (by rw [h3.1,hk]) (fun j v hj=>by
   rw [cL,cell_of_row w b j _ E (0,0) I];simpa using hj)
  have xb:l[t]?.getD undef=.pointer (some ⟨b,0,none⟩):=by simpa using kZ
  refine ⟨.tuple #[.agg vs.toArray,nth l u,nth l s],K,ij (below n) β,.tup [.agg cs,g,g'],F.take n,?_,hI.cut G hl,?_,h⟩
  ·rw [<-jM l u,<-jM l s];simp [results,hr,xb,asAddr,BC]
  ·refine Rel.res ?_ lD;subst fu Xn;have hc:bh K β [.agg vs.toArray,nth l u,nth l s] [.agg cs,cB fr u,cB fr s]:=.cons (.agg vs cs h3.1 h3.2) (.cons (hF.nth u) (.cons (hF.nth s) .nil))
   exact .tup _ _ hc.1 hc.2⟩
end
end Go.Xg
namespace Go.Xg
open GV (U)
open Go.RowKit Go.Xw Go.Proofs Tryz
open Go.Xp (Tok Nd T bz one levels)
open Go.Sp
attribute [local irreducible] GW GL GO YG GC GA be bd
abbrev Dw (c:UInt8):GV:=.v (.int .u8 (c.toNat:Int))
theorem xh (c:UInt8):GF prog 136 [Dw c] [] (.v (.bool (small c))) []:=by
 unfold small;refine cY func136 ntmps136 ?_
 cases h:decide ((97:Int)<=(c.toNat:Int))
 all_goals
  exact ay
theorem xg (c:UInt8):GF prog 176 [Dw c] [] (.v (.bool (ew c))) []:=by
 unfold ew;refine cY func176 ntmps176 ?_
 cases h:decide ((48:Int)<=(c.toNat:Int))
 all_goals
  exact ay
theorem D1 (c:UInt8):GF prog 135 [Dw c] [] (.v (.bool (ei c))) []:=by
 unfold ei;have hs:=xh c;have hd:=xg c;generalize small c=b1 at *;generalize ew c=b2 at *;refine ah func135 ntmps135 ?_;refine hY [] hs ?_
 cases b1 with
 | true =>
  exact ay
 | false =>
  cases L:decide ((65:Int)<=(c.toNat:Int)) with
  | true =>
   cases I:decide ((c.toNat:Int)<=90) with
   | true =>
    exact ay
   | false =>
    refine D ?_;refine hY [] hd ?_
    cases b2 with
    | true =>
     exact ay
    | false =>
     exact ay
  | false =>
   refine D ?_;refine hY [] hd ?_
   cases b2 with
   | true =>
    exact ay
   | false =>
    exact ay
theorem pG (s t:ae) (a:Nat) (hs:s.length<=1152921504606846976) (ht:t.length<=1152921504606846976) (ha:a<=1152921504606846976) :
  GF prog 229 [.v (sv s),.v (ii (a:Nat)),.v (sv t)] [] (.v (.bool (bM s a t))) []:=by
 by_cases h:a+t.length<=s.length
 ·have h':decide (((a+t.length:Nat):Int)<=(s.length:Int))=true:=by simpa using by omega
  refine ah func229 ntmps229 ?_;refine cv ?_;unfold bM;rw [decide_eq_true h];exact ⟨rfl,rfl⟩
 ·have h':decide (((a+t.length:Nat):Int)<=(s.length:Int))=false:=by simpa using by omega
  refine ah func229 ntmps229 ?_;refine cv ?_;unfold bM;rw [decide_eq_false h];exact ⟨rfl,rfl⟩
theorem NP (s:ae) (a:Nat) (hs:s.length<=1099511627776) (ha:a<=s.length) :
  GF prog 185 [.v (sv s),.v (ii (a:Nat))] [] (.tup [.v (ii ((skip s (s.length+1) a).1:Nat)),.v (ii (skip s (s.length+1) a).2)]) []:=by
 generalize hR:skip s (s.length+1) a=R;refine ah func185 ntmps185 ?_;refine GW.loop (fun x:Nat × Nat=>x.1) (fun x fr F=>fr=[.v (sv s),.v (ii (x.2:Nat)),U,U,U,U,U,U,U,U,U,U,U,U,U,U,U,U,U,U,U,U,U,U,U,U,U,U,U,U,U,U,U,U,U,U,U,U,U,U,U,U,U,U,U,U,U,U,U,U,U,U,U,U,U,U,U,U,U,U,U,U,U]/\F=[]/\x.2<=s.length/\s.length < x.1+x.2/\skip s x.1 x.2=R) (s.length+1,a) ?_ ?_
 ·exact ⟨_,_,Wk.aE ao,rfl,rfl,ha,by simp;omega,hR⟩
 ·rintro ⟨f,a⟩ _ _ ⟨rfl,rfl,ha,hf,h⟩;simp only at ha hf h
  cases f with
  | zero=>omega
  | succ f =>
  rw [skip] at h
  cases hc:s[a]? with
  | none =>
   rw [hc] at h;simp only at h;subst h;have mw:s.length<=a:=qV hc
   have hd:decide ((a:Int) < (s.length:Int))=false:=by simpa using mw
   refine cl ?_;exact rS
  | some c =>
   rw [hc] at h;simp only at h;have ak:a < s.length:=(bp hc).1
   have hd:decide ((a:Int) < (s.length:Int))=true:=by simpa using ak
   have hb:eb c=(((c.toNat:Int)==32) || ((c.toNat:Int)==9) || ((c.toNat:Int)==10) || ((c.toNat:Int)==13)):=rfl
   by_cases n5:eb c=true
   ·rw [ab n5] at h;rw [hb] at n5;have FW:((c.toNat:Int)==32)=true\/(((c.toNat:Int)==32)=false/\((c.toNat:Int)==9)=true)\/(((c.toNat:Int)==32)=false/\((c.toNat:Int)==9)=false/\((c.toNat:Int)==10)=true) \/
      (((c.toNat:Int)==32)=false/\((c.toNat:Int)==9)=false/\((c.toNat:Int)==10)=false/\((c.toNat:Int)==13)=true):=by
     generalize ((c.toNat:Int)==32)=b1 at *;generalize ((c.toNat:Int)==9)=b2 at *;generalize ((c.toNat:Int)==10)=b3 at *;generalize ((c.toNat:Int)==13)=b4 at *;clear hb
     revert n5;cases b1 <;> cases b2 <;> cases b3 <;> cases b4 <;> simp
    clear hb n5
    rcases FW with k1 | ⟨k1,k2⟩ | ⟨k1,k2,k3⟩ | ⟨k1,k2,k3,k4⟩
    all_goals
     refine cl ?_;exact ⟨(f,a+1),⟨_,_,Wk.aE ao,rfl,rfl,by simp only;omega,by simp only;omega,h⟩,by simp⟩
   ·rw [M n5] at h;rw [hb] at n5
    have FW:((c.toNat:Int)==32)=false/\((c.toNat:Int)==9)=false/\((c.toNat:Int)==10)=false/\((c.toNat:Int)==13)=false:=by
     generalize ((c.toNat:Int)==32)=b1 at *;generalize ((c.toNat:Int)==9)=b2 at *;generalize ((c.toNat:Int)==10)=b3 at *;generalize ((c.toNat:Int)==13)=b4 at *;clear hb
     revert n5;cases b1 <;> cases b2 <;> cases b3 <;> cases b4 <;> simp
    clear hb n5;obtain ⟨k1,k2,k3,k4⟩:=FW
    by_cases pA:bM s a [47,42]=true
    ·rw [ab pA] at h;have n5:=kq pA;have n5:a+2<=s.length:=n5
     have DN:(!bM s a [47,42])=false:=by rw [pA];rfl
     try simp only at h
     generalize he:fp s s.length (a+2)=e at h;refine D ?_;refine V [] (pG s [47,42] a G aR G) ?_;have Mw:=rY s s.length (a+2) G G;have Mx:=tg s s.length (a+2) G;rw [he] at Mw Mx;refine GW.Ri (fun fr F=>fr=[.v (sv s),.v (ii (a:Nat)),U,U,U,U,.v (ii (e:Nat)),U,U,U,U,U,U,U,U,U,U,U,U,U,U,U,U,U,U,U,U,U,U,U,U,U,U,U,U,U,U,U,U,U,U,U,U,U,U,U,U,U,U,U,U,U,U,U,U,U,U,U,U,U,U,U,U]/\F=[]) ?_ ?_
     ·refine GW.loop (fun x:Nat × Nat=>x.1) (fun x fr F=>fr=[.v (sv s),.v (ii (a:Nat)),U,U,U,U,.v (ii (x.2:Nat)),U,U,U,U,U,U,U,U,U,U,U,U,U,U,U,U,U,U,U,U,U,U,U,U,U,U,U,U,U,U,U,U,U,U,U,U,U,U,U,U,U,U,U,U,U,U,U,U,U,U,U,U,U,U,U,U]/\F=[]/\x.2<=s.length/\fp s x.1 x.2=e) (s.length,a+2) ?_ ?_
      ·exact ⟨_,_,Wk.aE ao,rfl,rfl,by simp only;omega,he⟩
      ·rintro ⟨g,e'⟩ _ _ ⟨rfl,rfl,hle,ud⟩;simp only at hle ud
       by_cases hstop:e' < s.length
       ·have dH:decide ((e':Int) < (s.length:Int))=true:=by simpa using hstop
        cases qb:bM s e' [42,47] with
        | true =>
         have YM:(!bM s e' [42,47])=false:=by rw [qb];rfl
         have xG:e'=e:=by
          cases g with
          | zero=>exact ud
          | succ g=>rw [fp,M (by rw [qb];simp)] at ud;exact ud
         subst xG;refine D ?_;refine V [] (pG s [42,47] e' G aR G) ?_;refine jY ?_;exact kh
        | false =>
         have YM:(!bM s e' [42,47])=true:=by rw [qb];rfl
         cases g with
         | zero=>exact absurd ⟨by rw [<-ud];exact hstop,by rw [<-ud];exact qb⟩ Mw
         | succ g =>
          rw [fp,ab ⟨hstop,qb⟩] at ud;refine D ?_;refine V [] (pG s [42,47] e' G aR G) ?_;exact ⟨(g,e'+1),⟨_,_,Wk.aE ao,rfl,rfl,hstop,ud⟩,by simp⟩
       ·have dH:decide ((e':Int) < (s.length:Int))=false:=by simp;omega
        have xG:e'=e:=by
         cases g with
         | zero=>exact ud
         | succ g=>rw [fp,M (fun hh=>hstop hh.1)] at ud;exact ud
        subst xG;refine cl ?_;exact kh
     ·rintro _ _ ⟨rfl,rfl⟩
      by_cases hle:s.length<=e
      ·rw [ab hle] at h
       have Y4:decide ((s.length:Int)<=(e:Int))=true:=by simpa using hle
       subst h;exact rS
      ·rw [M hle] at h
       have Y4:decide ((s.length:Int)<=(e:Int))=false:=by simp;omega
       have qb:bM s e [42,47]=true:=by
        cases qb:bM s e [42,47] with
        | true=>rfl
        | false=>exact absurd ⟨by omega,qb⟩ Mw
       have qb:=kq qb;have qb:e+2<=s.length:=qb;refine cl ?_;exact ⟨(f,e+2),⟨_,_,Wk.aE ao,rfl,rfl,qb,by simp only;omega,h⟩,by simp⟩
    ·rw [M pA] at h
     have DN:(!bM s a [47,42])=true:=by simpa using pA
     subst h;refine D ?_;refine V [] (pG s [47,42] a G aR G) ?_;exact nt
theorem xi:GF prog 80 [] [] (strs words) []:=by
 refine ah func80 ntmps80 ?_;refine cw ?_;exact ay
theorem Kw:GF prog 231 [] [] (strs bX) []:=by
 refine ah func231 ntmps231 ?_;refine cw ?_;exact ay
theorem M6 (s:ae) (hs:s.length<=1099511627776):GF prog 79 [.v (sv s)] [] (.v (.bool (word s))) []:=by
 refine ah func79 ntmps79 ?_;refine GW.loop (fun a:Nat=>s.length - a) (fun a fr F=>fr=[.v (sv s),U,U,.v (ii (a:Nat)),U,U,U,U,U,U,U,U,U,U,U,U,U,U,U,U,U,U]/\F=[]/\a<=s.length/\(s.take a).all ei=true) 0 ?_ ?_
 ·exact ⟨_,_,Wk.aE ao,rfl,rfl,aM _,rfl⟩
 ·rintro a _ _ ⟨rfl,rfl,ha,aY⟩
  cases hc:s[a]? with
  | some c =>
   have ak:a < s.length:=(bp hc).1
   have hd:decide ((a:Int) < (s.length:Int))=true:=by simpa using ak
   have bK:(s.take (a+1)).all ei=((s.take a).all ei&&ei c):=by
    rw [cm,hc,List.all_append];simp
   have hp:=D1 c
   cases hn:ei c with
   | true =>
    rw [hn] at hp;refine D ?_;refine V [] hp ?_;exact ⟨a+1,⟨_,_,Wk.aE ao,rfl,rfl,ak,by rw [bK,aY,hn];rfl⟩,by omega⟩
   | false =>
    rw [hn] at hp;refine D ?_;refine V [] hp ?_;refine cv ?_;refine ⟨?_,rfl⟩
    have hw:word s=false:=by
     have:s.all ei=false:=by
      rw [List.all_eq_false];exact ⟨c,bF hc,by rw [hn];decide⟩
     unfold word;rw [this];rfl
    rw [hw];rfl
  | none =>
   have mw:s.length<=a:=qV hc
   have hd:decide ((a:Int) < (s.length:Int))=false:=by simpa using mw
   have aY:s.all ei=true:=by rw [lS mw] at aY;exact aY
   cases s with
   | nil =>
    refine cl ?_;exact ay
   | cons c r =>
    have hr:(c::r)[0]?=some c:=rfl;refine cl ?_;refine D ?_;refine V [] (xh c) ?_;refine cv ?_;refine ⟨?_,rfl⟩;unfold word;rw [aY];rfl
theorem eG (s:ae) (hs:s.length<=1099511627776):GF prog 22 [.v (sv s)] [] (.v (.bool (bt s))) []:=by
 have hw:=M6 s hs;unfold bt;generalize word s=b at *;refine ah func22 ntmps22 ?_;refine hY [] hw ?_
 cases b with
 | false =>
  exact ay
 | true =>
  by_cases o0:s.length<=12
  ·have YH:decide ((s.length:Int)<=12)=true:=by simpa using by omega
   refine D ?_;refine V [] xi ?_;refine V [] (jo words s aR) ?_;refine cv ?_;rw [decide_eq_true o0];exact ⟨rfl,rfl⟩
  ·have YH:decide ((s.length:Int)<=12)=false:=by simpa using by omega
   refine D ?_;refine cv ?_;rw [decide_eq_false o0];exact ⟨rfl,rfl⟩
theorem HB (s:ae) (a:Nat) (hs:s.length<=1099511627776) (ha:a<=s.length) :
  GF prog 230 [.v (sv s),.v (ii (a:Nat))] [] (.tup [.agg (dw ⟨1,(number s (s.length+1) 0 a).1,[],a⟩),.v (ii ((number s (s.length+1) 0 a).2:Nat))]) []:=by
 generalize hR:number s (s.length+1) 0 a=R;generalize ha0:a=a0 at *;refine ah func230 ntmps230 ?_;refine GW.loop (fun x:Nat × Int × Nat=>x.1) (fun x fr F=>fr=[.v (sv s),.v (ii (x.2.2:Nat)),U,U,.loc 0 0,U,.loc 1 0,U,U,U,U,U,U,U,U,U,U,U,U,U,U,U,U,U,U,U,U,U,U,U,U,U,U,U,U,U]/\F=[.box 183 [.v (ii 0),.v (ii 0),.v (sv []),.v (ii 0)],.box 183 (dw ⟨1,x.2.1,[],a0⟩)]/\x.2.2<=s.length/\s.length < x.1+x.2.2/\number s x.1 x.2.1 x.2.2=R/\0<=x.2.1/\x.2.1<=21474836479) (s.length+1,0,a0) ?_ ?_
 ·exact ⟨_,_,Wk.aE ao,rfl,rfl,by simp only;omega,by simp only;omega,by rw [<-hR],by simp,by simp⟩
 ·rintro ⟨f,n,a⟩ _ _ ⟨rfl,rfl,ha,hf,h,DR,BE⟩;simp only at ha hf h DR BE
  cases f with
  | zero=>omega
  | succ f =>
  rw [number] at h
  cases hc:s[a]? with
  | none =>
   rw [hc] at h;simp only at h;subst h;have mw:s.length<=a:=qV hc
   have hd:decide ((a:Int) < (s.length:Int))=false:=by simpa using mw
   refine cl ?_;refine D ?_;refine oG ?_;exact ⟨rfl,rfl⟩
  | some c =>
   rw [hc] at h;simp only at h;have ak:a < s.length:=(bp hc).1
   have hd:decide ((a:Int) < (s.length:Int))=true:=by simpa using ak
   have nA:=xg c
   cases hdc:ew c with
   | false =>
    rw [hdc] at nA;rw [M (by rw [hdc];simp)] at h;subst h;refine D ?_;refine V [] nA ?_;refine jY ?_;refine D ?_;refine oG ?_;exact ⟨rfl,rfl⟩
   | true =>
    rw [hdc] at nA;rw [ab hdc] at h
    have yC:(48:Int)<=(c.toNat:Int)/\(c.toNat:Int)<=57:=by
     simp only [ew,aH,decide_eq_true_eq] at hdc;exact hdc
    by_cases hn:n<=2147483647
    ·rw [ab hn] at h
     have BD:decide (n<=2147483647)=true:=by simpa using hn
     refine D ?_;refine V [] nA ?_;refine aK (aC 0 10 (.a 10 .nil)) ?_;refine bq ?_;exact ⟨(f,n * 10+((c.toNat:Int) - 48),a+1),⟨_,_,Wk.aE ao,rfl,rfl,ak,by simp only;omega,h,by simp only;omega,by simp only;omega⟩,by simp⟩
    ·rw [M hn] at h
     have BD:decide (n<=2147483647)=false:=by simpa using hn
     refine D ?_;refine V [] nA ?_;exact ⟨(f,n,a+1),⟨_,_,Wk.aE ao,rfl,rfl,ak,by simp only;omega,h,DR,BE⟩,by simp⟩
theorem L6 {xs:List ae} {p:ae->Bool} {k:Nat} {x:ae} (h:(xs.take k).find? p=none) (hx:xs[k]?=some x) (hp:p x=true):xs.find? p=some x:=by
 have ak:=(bp hx).1
 have:xs=xs.take k++x::xs.drop (k+1):=by
  have L:=List.take_append_drop k xs;rw [kW ak] at L;rw [(bp hx).2] at L;exact L.symm
 rw [this,List.find?_append,h];simp [List.find?_cons,hp]
theorem L5 {xs:List ae} {p:ae->Bool} {k:Nat} {x:ae} (h:(xs.take k).find? p=none) (hx:xs[k]?=some x) (hp:p x=false):(xs.take (k+1)).find? p=none:=by
 rw [cm,hx,List.find?_append,h];simp [List.find?_cons,hp]
theorem HS:∀ x∈bX,x.length<=1152921504606846976:=by decide
theorem Pu (s:ae) (a:Nat) (c:UInt8) (hs:s.length<=1099511627776) (hc:s[a]?=some c) :
  GF prog 186 [.v (sv s),.v (ii (a:Nat))] [] (.tup [.agg (dw (jG s a c).1),.v (ii ((jG s a c).2:Nat))]) []:=by
 have ak:a < s.length:=(bp hc).1;have nA:=xg c;have jh:=xh c;unfold jG
 cases hdc:ew c with
 | true =>
  rw [hdc] at nA;rw [ab rfl];refine ah func186 ntmps186 ?_;refine V [] nA ?_;refine V [] (HB s a hs G) ?_;refine oG ?_;exact ⟨rfl,rfl⟩
 | false =>
  rw [hdc] at nA;rw [M aR]
  cases hsc:small c with
  | true =>
   rw [hsc] at jh;rw [ab rfl];have XF:=qh s ei (s.length+1) a G G;have XL:(s.take (fa s a)).drop a=fE s a:=rfl;have Um:run s ei (s.length+1) a=fa s a:=rfl;rw [Um] at XF;generalize he:fa s a=e at *;generalize hw:fE s a=w at *;have hw:=XL;have he:=Um;refine ah func186 ntmps186 ?_;refine V [] nA ?_;refine V [] jh ?_;refine GW.Ri (fun fr F=>fr=[.v (sv s),.v (ii (a:Nat)),U,U,.loc 0 0,U,.v (ii (e:Nat)),U,U,U,U,U,U,U,U,U,U,U,U,U,U,U,U,U,U,U,U,U,U,U,U,U,U,U,U,U,U,U,U,U,U,U,U,U,U,U,U,U,U,U,U,U,U,U,U,U,U,U,U,U,U,U,U,U,U,U,U,U,U]/\F=[.box 183 [.v (ii 0),.v (ii 0),.v (sv []),.v (ii 0)]]) ?_ ?_
   ·refine GW.loop (fun x:Nat × Nat=>x.1) (fun x fr F=>fr=[.v (sv s),.v (ii (a:Nat)),U,U,.loc 0 0,U,.v (ii (x.2:Nat)),U,U,U,U,U,U,U,U,U,U,U,U,U,U,U,U,U,U,U,U,U,U,U,U,U,U,U,U,U,U,U,U,U,U,U,U,U,U,U,U,U,U,U,U,U,U,U,U,U,U,U,U,U,U,U,U,U,U,U,U,U,U]/\F=[.box 183 [.v (ii 0),.v (ii 0),.v (sv []),.v (ii 0)]]/\x.2<=s.length/\s.length < x.1+x.2/\run s ei x.1 x.2=e) (s.length+1,a) ?_ ?_
    ·exact ⟨_,_,Wk.aE ao,rfl,rfl,by simp only;omega,by simp only;omega,he⟩
    ·rintro ⟨f,b⟩ _ _ ⟨rfl,rfl,hb,hf,h⟩;simp only at hb hf h
     cases f with
     | zero=>omega
     | succ f =>
     rw [run] at h
     cases zW:s[b]? with
     | none =>
      rw [zW] at h;simp only at h;subst h;have mw:s.length<=b:=qV zW
      have hd:decide ((b:Int) < (s.length:Int))=false:=by simpa using mw
      refine cl ?_;exact kh
     | some cb =>
      rw [zW] at h;simp only at h;have qy:b < s.length:=(bp zW).1
      have hd:decide ((b:Int) < (s.length:Int))=true:=by simpa using qy
      have hp:=D1 cb
      cases hn:ei cb with
      | true =>
       rw [hn] at hp;rw [ab hn] at h;refine D ?_;refine V [] hp ?_;exact ⟨(f,b+1),⟨_,_,Wk.aE ao,rfl,rfl,qy,by simp only;omega,h⟩,by simp⟩
      | false =>
       rw [hn] at hp;rw [M (by rw [hn];decide)] at h;subst h;refine D ?_;refine V [] hp ?_;refine jY ?_;exact kh
   ·rintro _ _ ⟨rfl,rfl⟩;obtain ⟨_,L,I⟩:=XF;refine D ?_;rw [hw];have Ki:=jo words w aR
    cases hcw:words.contains w with
    | true =>
     rw [hcw] at Ki;refine aK (.q 1 (.q 2 (.a 0 (.a 3 .nil)))) ?_;refine aj ?_;refine aI [] xi ?_;refine aI [] Ki ?_;refine D ?_;refine oG ?_;rw [ab rfl];exact ⟨rfl,rfl⟩
    | false =>
     rw [hcw] at Ki;refine aK (.q 1 (.q 2 (.a 0 (.a 3 .nil)))) ?_;refine aj ?_;refine aI [] xi ?_;refine aI [] Ki ?_;refine D ?_;refine oG ?_;rw [M aR];exact ⟨rfl,rfl⟩
  | false =>
   rw [hsc] at jh;rw [M aR];refine ah func186 ntmps186 ?_;refine V [] nA ?_;refine V [] jh ?_;refine V [] Kw ?_;refine GW.range (bX.map fun s=>[GV.v (sv s)]).length (fun k fr F=>fr=[.v (sv s),.v (ii (a:Nat)),U,U,.loc 0 0,U,U,U,U,U,U,U,U,U,U,U,U,U,U,U,U,U,U,U,U,U,U,U,U,U,U,U,U,U,U,U,U,U,U,U,U,U,U,U,U,U,U,U,U,strs bX,.v (ii ((bX.map fun s=>[GV.v (sv s)]).length:Int)),.v (ii (k:Nat)),U,U,U,U,U,U,U,U,U,U,U,U,U,U,U,U,U]/\F=[.box 183 [.v (ii 0),.v (ii 0),.v (sv []),.v (ii 0)]]/\(bX.take k).find? (bM s a)=none) ?_ aR ?_ ?_ ?_
   ·exact kQ
   ·exact iI
   ·rintro k _ _ hk ⟨rfl,rfl,hf⟩
    have hk:k < bX.length:=by simpa using hk
    have hx:bX[k]?=some bX[k]:=by simp [hk]
    have hr:(bX.map fun s=>[GV.v (sv s)])[k]?=some [.v (sv bX[k])]:=by simp [hk]
    have Ad:=HS _ (getElem_mem hk);generalize bX[k]=x at *;have pA:=pG s x a G Ad G
    cases hb:bM s a x with
    | true =>
     rw [hb] at pA;have Uo:=L6 hf hx hb;refine D ?_;refine V [] pA ?_;refine oG ?_;rw [Uo];exact ⟨rfl,rfl⟩
    | false =>
     rw [hb] at pA;refine D ?_;refine V [] pA ?_;exact ⟨rfl,rfl,_,_,Wk.aE ao,rfl,rfl,L5 hf hx hb⟩
   ·rintro _ _ ⟨rfl,rfl,hf⟩
    have hf:bX.find? (bM s a)=none:=by
     rw [lS (by simp)] at hf;exact hf
    refine D ?_;refine oG ?_;rw [hf];exact ⟨rfl,rfl⟩
theorem Ql {s:ae} {a:Nat} {c:UInt8} (hc:s[a]?=some c):a<=(jG s a c).2/\(jG s a c).2<=s.length:=by
 have ak:a < s.length:=(bp hc).1;unfold jG;split
 ·exact (xr s (s.length+1) 0 a G G).2
 ·split
  ·exact (qh s ei (s.length+1) a G G).2
  ·split
   ·rename_i x hx;have:=kq (List.find?_some hx);exact ⟨Nat.le_add_right _ _,this⟩
   ·exact ⟨aD _,by omega⟩
theorem M8 (s:ae) (l:List Tok) (hs:s.length<=1000000000000) (h:Go.Sp.jx s=some l) :
  GF prog 152 [.v (sv s)] [] (Go.Xg.jx l) []:=by
 rw [Go.Sp.jx] at h;have hsk:=NP s 0 G (aM _);have qA:=zC s (s.length+1) 0 (aM _);generalize hS:skip s (s.length+1) 0=R at *;refine ah func152 ntmps152 ?_;refine oE ?_;refine D ?_;refine V [] hsk ?_;refine GW.loop (fun x:Nat × Nat × List Tok=>x.1) (fun x fr F=>∃ n rows,fr=[.v (sv s),U,U,.vec 0 n,.v (ii (x.2.1:Nat)),U,U,U,U,U,U,U,U,U,U,U,U,U,U,U,U,U,U,U,U,U,U,U,U,U,U,U,U,U,U]/\F=[.vec 183 4 0 rows]/\rows.length=n/\rows=x.2.2.map dw/\n+x.1<=s.length+2/\x.2.1<=s.length/\qP s x.1 x.2.1 x.2.2=some l) (s.length+2,R.1,[]) ?_ ?_
 ·exact ⟨_,_,Wk.aE ao,0,[],rfl,rfl,rfl,rfl,by simp,qA.2,h⟩
 ·rintro ⟨f,a,acc⟩ _ _ ⟨n,rows,rfl,rfl,hn,bL,so,ha,h⟩;simp only at bL so ha h
  cases f with
  | zero=>simp [qP] at h
  | succ f =>
  rw [qP] at h
  cases hc:s[a]? with
  | none =>
   rw [hc] at h;simp only at h;cases h;have mw:s.length<=a:=qV hc
   have hd:decide ((a:Int) < (s.length:Int))=false:=by simpa using mw
   subst bL;refine cl ?_;refine D ?_;refine GW.wk (Wk.jv (t:=2) rfl rfl rfl hn) ?_;exact al
  | some c =>
   rw [hc] at h;simp only at h;have ak:a < s.length:=(bp hc).1
   have hd:decide ((a:Int) < (s.length:Int))=true:=by simpa using ak
   have qd:=Ql hc;have gB:=Pu s a c G hc;generalize jG s a c=tk at *;have Zg:=NP s tk.2 G qd.2;have aaA:=zC s (s.length+1) tk.2 qd.2;generalize skip s (s.length+1) tk.2=R2 at *;refine D ?_;refine V [] gB ?_;refine eu ?_;refine D ?_;refine V [] Zg ?_;exact ⟨(f,R2.1,acc++[tk.1]),⟨_,_,(Wk.cut (n:=1) (fO rfl) rfl).trans (Wk.aE ao),_,_,rfl,rfl,by simp [hn],by rw [iL,bL];rfl,by simp only;omega,by simp only;omega,h⟩,by simp⟩
structure EV (f:Nat):Prop where
 expr:∀ d p t q,p.ok->d+f<=4611686018427387904->mE f (.expr d) p=some (t,q)->GF prog 235 [.loc 0 0,.v (ii (d:Nat))] [cI p] (.agg (cT t)) [cI q]
 level:∀ k d p t q,p.ok->k<=9->d+f<=4611686018427387904->mE f (.level k d) p=some (t,q)->GF prog 263 [.loc 0 0,.v (ii (k:Nat)),.v (ii (d:Nat))] [cI p] (.agg (cT t)) [cI q]
 operand:∀ d p t q,p.ok->d+f<=4611686018427387904->mE f (.operand d) p=some (t,q)->GF prog 277 [.loc 0 0,.v (ii (d:Nat))] [cI p] (.agg (cT t)) [cI q]
 named:∀ a s d p t q,p.ok->d+f<=4611686018427387904->mE f (.named a s d) p=some (t,q)->GF prog 286 [.loc 0 0,.v (ii a),.v (sv s),.v (ii (d:Nat))] [cI p] (.agg (cT t)) [cI q]
 list:∀ d p l q,p.ok->d+f<=4611686018427387904->mL f d p=some (l,q)->GF prog 290 [.loc 0 0,.v (ii (d:Nat))] [cI p] (.sl 6 (aX l)) [cI q]
theorem Tx {f:Nat} (C:EV f) (d:Nat) (p:RS) (t:T) (q:RS) (hp:p.ok) (hd:d+(f+1)<=4611686018427387904) (h:mE (f+1) (.expr d) p=some (t,q)) :
  GF prog 235 [.loc 0 0,.v (ii (d:Nat))] [cI p] (.agg (cT t)) [cI q]:=by
 rw [mE] at h;refine ah func235 ntmps235 ?_;refine V [0] (va p d hp) ?_;refine V [0] (C.level 0 d _ t q ((oW hp d).ok hp) G G h) ?_;exact dM
theorem I4 {k:Nat} (hk:k < 9):(levels.map fun l=>[strs l])[k]?=some [strs (levels.getD k [])]:=by
 have:k < levels.length:=hk;rw [aV,fM this,List.getD_eq_getElem?_getD,fM this];rfl
theorem CV:∀ k,k < 9->(levels.getD k []).length<=1099511627776:=by decide
abbrev zT:List GV:=[.v (ii 0),.v (ii 0),.v (ii 0),.v (sv []),.v (.slice none 0 0),.v (.slice none 0 0)]
theorem Ss {f:Nat} (C:∀ f',f'<=f->EV f') (k d:Nat) (p:RS) (t:T) (q:RS) (hp:p.ok) (hk:k<=9) (hd:d+(f+1)<=4611686018427387904) (h:mE (f+1) (.level k d) p=some (t,q)) :
  GF prog 263 [.loc 0 0,.v (ii (k:Nat)),.v (ii (d:Nat))] [cI p] (.agg (cT t)) [cI q]:=by
 rw [mE] at h
 by_cases BB:k=9
 ·subst BB;rw [ab rfl] at h;refine ah func263 ntmps263 ?_;refine V [] kx ?_;refine V [0] ((C f (aD _)).operand (d+1) p t q hp G h) ?_;exact dM
 ·rw [M BB] at h
  have Y1:((k:Int)==9)=false:=by simp;omega
  cases he:mE f (.level (k+1) d) p with
  | none=>rw [he] at h;cases h
  | some r =>
   obtain ⟨out,p1⟩:=r;rw [he] at h;simp only at h;have mz:=((vd f).1 _ _ _ _ hp he).ok hp;refine ah func263 ntmps263 ?_;refine V [] kx ?_;refine V [0] ((C f (aD _)).level (k+1) d p out p1 hp G G he) ?_;refine GW.loop (fun x:Nat × T × RS=>x.1) (fun x fr F=>fr=[.loc 0 0,.v (ii (k:Nat)),.v (ii (d:Nat)),U,U,U,.loc 1 0,.loc 2 0,U,U,U,U,U,U,U,U,U,U,U,U,U,U,U,U,U,U,U,U,U,U,U,U,U,U,U,U,U,U,U,U,U,U,U,U,U,U,U,U,U,U,U,U,U,U,U,U,U,U,U,U,U,U,U,U,U,U]/\F=[cI x.2.2,.box 65 zT,.box 65 (cT x.2.1)]/\x.2.2.ok/\x.1<=f/\mE x.1 (.loop k d x.2.1) x.2.2=some (t,q)) (f,out,p1) ?_ ?_
   ·exact ⟨_,_,Wk.aE ao,rfl,rfl,mz,aD _,h⟩
   ·rintro ⟨g,out,p⟩ _ _ ⟨rfl,rfl,hp,MD,h⟩;simp only at hp MD h
    cases g with
    | zero=>simp [mE] at h
    | succ g =>
    rw [mE] at h
    have hk:k < 9:=by omega
    by_cases hc:p.code=0
    ·have dP:(p.code==0)=true:=by simpa using hc
     have Uu:=I4 hk
     by_cases hit:(levels.getD k []).contains (p.sign 0)=true
     ·rw [ab ⟨hc,hit⟩] at h
      cases ht:p.l[p.i]? with
      | none=>rw [ht] at h;cases h
      | some tk =>
       rw [ht] at h;simp only at h;have ak:=(bp ht).1;have hr:=lq ht;have dJ:=hp.2
       cases hb:mE g (.level (k+1) d) p.next with
       | none=>rw [hb] at h;cases h
       | some r =>
        obtain ⟨b,p2⟩:=r;rw [hb] at h;simp only at h;have dD:=(dT ak).ok hp;have eh:=((vd g).1 _ _ _ _ dD hb).ok dD;refine D ?_;refine aK (aC 0 6 (.q 7 (.q 10 (.a 6 (.q 8 (.q 9 (.a 11 (.a 12 (.q 13 .nil))))))))) ?_;refine aj ?_;refine bR [] kx ?_;refine bR [0] (dr p 0 hp aR) ?_;refine bR [] (jo (levels.getD k []) (p.sign 0) (CV k hk)) ?_;refine D ?_;refine aK (aC 0 10 (.a 10 (.a 11 .nil))) ?_;refine bq ?_;refine aK (aC 0 9 (.a 9 (.a 10 (.a 11 (.a 12 .nil))))) ?_;refine aj ?_;refine aI [0] ((C g G).level (k+1) d p.next b p2 dD G G hb) ?_;refine eY ?_;refine aj ?_;refine iH [] (gO 6 tk.at_ tk.s [out,b] _ oX) ?_;refine G8 ?_;refine bq ?_;exact ⟨(g,one 6 tk.at_ tk.s [out,b],p2),⟨_,_,(Wk.cut (n:=3) (fO rfl) rfl).trans (Wk.aE ao),rfl,rfl,eh,by omega,h⟩,by simp⟩
     ·have hit:(levels.getD k []).contains (p.sign 0)=false:=by simpa using hit
      rw [M (by rw [hit];simp)] at h
      obtain ⟨rfl,rfl⟩:out=t/\p=q:=by simpa using h
      refine D ?_;refine aK (aC 0 6 (.q 7 (.q 10 (.a 6 (.q 8 (.q 9 (.a 11 (.a 12 (.q 13 .nil))))))))) ?_;refine aj ?_;refine bR [] kx ?_;refine bR [0] (dr p 0 hp aR) ?_;refine bR [] (jo (levels.getD k []) (p.sign 0) (CV k hk)) ?_;refine cl ?_;exact pY
    ·have dP:(p.code==0)=false:=by simpa using hc
     rw [M (fun hh=>hc hh.1)] at h
     obtain ⟨rfl,rfl⟩:out=t/\p=q:=by simpa using h
     refine D ?_;refine aK (aC 0 6 (.q 7 (.q 10 (.a 6 (.q 8 (.q 9 (.a 11 (.a 12 (.q 13 .nil))))))))) ?_;refine bq ?_;refine jY ?_;exact pY
theorem Sz {f:Nat} (C:EV f) (a:Int) (s:ae) (d:Nat) (p:RS) (t:T) (q:RS) (hp:p.ok) (hd:d+(f+1)<=4611686018427387904) (h:mE (f+1) (.named a s d) p=some (t,q)) :
  GF prog 286 [.loc 0 0,.v (ii a),.v (sv s),.v (ii (d:Nat))] [cI p] (.agg (cT t)) [cI q]:=by
 rw [mE] at h
 by_cases L:p.sign 0=[91]
 ·rw [ab L] at h
  have c7:(p.sign 0==[91])=true:=by simp [L]
  have ak:=(fZ L aR).1;have dJ:=hp.2;have dD:=(jX L aR).ok hp
  cases he:mE f (.expr (d+1)) p.next with
  | none=>rw [he] at h;cases h
  | some r =>
   obtain ⟨b,p1⟩:=r;rw [he] at h;cases h;have mz:=((vd f).1 _ _ _ _ dD he).ok dD;refine ah func286 ntmps286 ?_;refine V [0] (dr p 0 hp aR) ?_;refine V [0] (C.expr (d+1) p.next b p1 dD G he) ?_;refine V [0] (dq p1 [93] mz aR) ?_;refine cw ?_;refine D ?_;refine V [] (gO 3 a s [b] _ oX) ?_;exact dM
 ·rw [M L] at h
  have c7:(p.sign 0==[91])=false:=by simpa using L
  by_cases I:p.sign 0=[40]
  ·rw [ab I] at h
   have q9:(p.sign 0==[40])=true:=by simp [I]
   have ak:=(fZ I aR).1;have dJ:=hp.2;have dD:=(jX I aR).ok hp
   cases he:mL f (d+1) p.next with
   | none=>rw [he] at h;cases h
   | some r =>
    obtain ⟨l,p1⟩:=r;rw [he] at h;cases h;refine ah func286 ntmps286 ?_;refine V [0] (dr p 0 hp aR) ?_;refine V [0] (C.list (d+1) p.next l q dD G he) ?_;refine V [] (gO 4 a s l _ rfl) ?_;exact dM
  ·rw [M I] at h
   have q9:(p.sign 0==[40])=false:=by simpa using I
   cases h;refine ah func286 ntmps286 ?_;refine V [0] (dr p 0 hp aR) ?_;refine V [] (gO 2 a s [] [] rfl) ?_;exact dM
theorem aZ (l:List T):(aX l).length=l.length:=by
 induction l with
 | nil=>rfl
 | cons a l ih=>simp [aX,ih]
theorem ya (l:List T) (a:T):aX (l++[a])=aX l++[cT a]:=by
 induction l with
 | nil=>simp [aX,vM]
 | cons b l ih=>simp [aX,ih]
theorem U5 {f:Nat} (C:∀ f',f'<=f->EV f') (d:Nat) (p:RS) (l:List T) (q:RS) (hp:p.ok) (hd:d+(f+1)<=4611686018427387904) (h:mL (f+1) d p=some (l,q)) :
  GF prog 290 [.loc 0 0,.v (ii (d:Nat))] [cI p] (.sl 6 (aX l)) [cI q]:=by
 rw [mL] at h
 by_cases L:p.sign 0=[41]
 ·rw [ab L] at h
  have c7:(!(p.sign 0==[41]))=false:=by simp [L]
  cases h;refine ah func290 ntmps290 ?_;refine oE ?_;refine D ?_;refine V [0] (dr p 0 hp aR) ?_;refine V [0] (dq p [41] hp aR) ?_;refine GW.wk (Wk.jv (t:=4) rfl rfl rfl rfl) ?_;exact al
 ·rw [M L] at h
  have c7:(!(p.sign 0==[41]))=true:=by simpa using L
  cases he:mE f (.expr d) p with
  | none=>rw [he] at h;cases h
  | some r =>
   obtain ⟨a,p1⟩:=r;rw [he] at h;simp only at h;have mz:=((vd f).1 _ _ _ _ hp he).ok hp;refine ah func290 ntmps290 ?_;refine oE ?_;refine D ?_;refine V [0] (dr p 0 hp aR) ?_;refine V [0] ((C f (aD _)).expr d p a p1 hp G he) ?_;refine eu ?_;refine D ?_;refine GW.loop (fun x:Nat × List T × RS=>x.1) (fun x fr F=>∃ n rows,fr=[.loc 0 0,.v (ii (d:Nat)),U,U,U,.vec 1 n,U,U,U,U,U,U,U,U,U,U,U,U,U,U,U,U,U,U,U,U,U,U,U,U,U,U,U,U,U]/\F=[cI x.2.2,.vec 65 6 0 rows]/\rows.length=n/\rows=aX x.2.1/\n<=x.2.2.i+1/\x.2.2.ok/\x.1<=f/\uu x.1 d x.2.1 x.2.2=some (l,q)) (f,[a],p1) ?_ ?_
   ·exact ⟨_,_,Wk.aE ao,_,_,rfl,rfl,rfl,(by simp only [aX,vM];rfl),(by show 1<=p1.i+1;omega),mz,aD _,h⟩
   ·rintro ⟨g,acc,p⟩ _ _ ⟨n,rows,rfl,rfl,hn,bL,Uy,hp,MD,h⟩;simp only at bL Uy hp MD h
    cases g with
    | zero=>simp [uu] at h
    | succ g =>
    rw [uu] at h;have dJ:=hp.2;have DT:=hp.1
    by_cases I:p.sign 0=[44]
    ·rw [ab I] at h
     have q9:(p.sign 0==[44])=true:=by simp [I]
     have ak:=(fZ I aR).1;have dD:=(jX I aR).ok hp
     cases hb:mE g (.expr d) p.next with
     | none=>rw [hb] at h;cases h
     | some r =>
      obtain ⟨b,p2⟩:=r;rw [hb] at h;simp only at h;have Q7:=(vd g).1 _ _ _ _ dD hb;have eh:=Q7.ok dD;have sU:p.i+1<=p2.i:=Q7.2.2.2;refine D ?_;refine V [0] (dr p 0 hp aR) ?_;refine V [0] ((C g G).expr d p.next b p2 dD G hb) ?_;refine eu ?_;refine D ?_;exact ⟨(g,acc++[b],p2),⟨_,_,Wk.aE ao,_,_,rfl,rfl,by simp [hn],by rw [ya,bL],by simp only;omega,eh,by simp only;omega,h⟩,by simp⟩
    ·rw [M I] at h
     have q9:(p.sign 0==[44])=false:=by simpa using I
     obtain ⟨rfl,rfl⟩:acc=l/\p.aP [41]=q:=by simpa using h
     subst bL;refine D ?_;refine V [0] (dr p 0 hp aR) ?_;refine jY ?_;refine D ?_;refine V [0] (dq p [41] hp aR) ?_;refine GW.wk (Wk.jv (t:=4) rfl rfl rfl hn) ?_;exact al
theorem Nw {f:Nat} (C:EV f) (d:Nat) (p:RS) (t:T) (q:RS) (hp:p.ok) (hd:d+(f+1)<=4611686018427387904) (h:mE (f+1) (.operand d) p=some (t,q)) :
  GF prog 277 [.loc 0 0,.v (ii (d:Nat))] [cI p] (.agg (cT t)) [cI q]:=by
 rw [mE] at h;have lF:=(oW hp d).ok hp;have w8:=va p d hp;generalize p.deep d=p1 at *
 try simp only at h
 obtain ⟨DT,dJ⟩:=id lF
 by_cases hc:p1.code=0
 ·rw [ab hc] at h
  have dP:(p1.code != 0)=false:=by simpa using hc
  cases ht:p1.l[p1.i]? with
  | none =>
   rw [ht] at h;cases h;have mw:p1.l.length<=p1.i:=qV ht
   have YY:decide (((p1.l.map dw).length:Int)<=(p1.i:Int))=true:=by simp;omega
   refine ah func277 ntmps277 ?_;refine V [0] w8 ?_;refine aK (aC 0 17 .nil) ?_;refine bq ?_;refine V [0] (lK p1 lF) ?_;refine V [0] (mV p1 7 p1.place) ?_;refine rU ?_;exact ⟨_,ik,rfl,rfl⟩
  | some tk =>
   rw [ht] at h;simp only at h;have ak:p1.i < p1.l.length:=(bp ht).1
   have YY:decide (((p1.l.map dw).length:Int)<=(p1.i:Int))=false:=by simp;omega
   have hr:=lq ht;have dD:=(dT ak).ok lF;refine ah func277 ntmps277 ?_;refine V [0] w8 ?_;refine aK (aC 0 17 .nil) ?_;refine bq ?_;refine aK (aC 0 10 (.a 10 (.a 11 .nil))) ?_;refine bq ?_
   by_cases k1:tk.kind=1
   ·rw [ab k1] at h;cases h
    have k1':(tk.kind==1)=true:=by simpa using k1
    refine D ?_;refine rU ?_;exact ⟨_,ik,rfl,rfl⟩
   ·rw [M k1] at h
    have k1':(tk.kind==1)=false:=by simpa using k1
    by_cases k2:tk.kind=2
    ·rw [ab k2] at h
     have k2':(tk.kind==2)=true:=by simpa using k2
     refine D ?_;refine V [0] (yL p1 lF) ?_;refine V [0] (C.named tk.at_ p1.name.1 d p1.name.2 t q ((rQ lF).ok lF) G h) ?_;exact dM
    ·rw [M k2] at h
     have k2':(tk.kind==2)=false:=by simpa using k2
     by_cases s3:tk.s=[45]\/tk.s=[33]\/tk.s=[126]
     ·rw [ab s3] at h
      cases he:mE f (.operand (d+1)) p1.next with
      | none=>rw [he] at h;cases h
      | some r =>
       obtain ⟨a,p2⟩:=r;rw [he] at h;cases h
       have s3':(tk.s==[45])=true\/((tk.s==[45])=false/\(tk.s==[33])=true)\/((tk.s==[45])=false/\(tk.s==[33])=false/\(tk.s==[126])=true):=by
        rcases s3 with s3 | s3 | s3
        ·exact .inl (by simp [s3])
        ·exact .inr (.inl (by simp [s3]))
        ·exact .inr (.inr (by simp [s3]))
       refine D ?_
       rcases s3' with e1 | ⟨e1,e2⟩ | ⟨e1,e2,e3⟩
       all_goals
        refine D ?_;refine aK (aC 0 7 (.a 7 (.a 8 (.a 9 (.a 10 .nil))))) ?_;refine aj ?_;refine aI [0] (C.operand (d+1) p1.next a q dD G he) ?_;refine eY ?_;refine aj ?_;refine iH [] (gO 5 tk.at_ tk.s [a] _ oX) ?_;refine G8 ?_;refine aj ?_;exact pY
     ·rw [M s3] at h
      have e1:(tk.s==[45])=false:=by simp at s3;simpa using s3.1
      have e2:(tk.s==[33])=false:=by simp at s3;simpa using s3.2.1
      have e3:(tk.s==[126])=false:=by simp at s3;simpa using s3.2.2
      by_cases s4:tk.s=[40]
      ·rw [ab s4] at h
       have s4':(tk.s==[40])=true:=by simp [s4]
       cases he:mE f (.expr (d+1)) p1.next with
       | none=>rw [he] at h;cases h
       | some r =>
        obtain ⟨a,p2⟩:=r;rw [he] at h;cases h;have eh:=((vd f).1 _ _ _ _ dD he).ok dD;refine D ?_;refine V [0] (C.expr (d+1) p1.next t p2 dD G he) ?_;refine V [0] (dq p2 [41] eh aR) ?_;exact dM
      ·rw [M s4] at h
       have s4':(tk.s==[40])=false:=by simpa using s4
       cases h;refine D ?_;refine V [0] (mV p1 7 tk.at_) ?_;refine rU ?_;exact ⟨_,ik,rfl,rfl⟩
 ·rw [M hc] at h
  have dP:(p1.code != 0)=true:=by simpa using hc
  cases h;refine ah func277 ntmps277 ?_;refine V [0] w8 ?_;refine aK (aC 0 17 .nil) ?_;refine bq ?_;refine V [0] (lK p1 lF) ?_;refine V [0] (mV p1 7 p1.place) ?_;refine rU ?_;exact ⟨_,ik,rfl,rfl⟩
theorem rds (f:Nat):EV f:=by
  induction f using Nat.strongRecOn with
  | _ f ih =>
   cases f with
   | zero=>exact ⟨fun d p t q _ _ h=>by simp [mE] at h,fun k d p t q _ _ _ h=>by simp [mE] at h,fun d p t q _ _ h=>by simp [mE] at h,fun a s d p t q _ _ h=>by simp [mE] at h,fun d p l q _ _ h=>by simp [mL] at h⟩
   | succ f =>
    have C:=ih f (Nat.lt_succ_self f)
    have Cs:∀ f',f'<=f->EV f':=fun f' h=>ih f' (Nat.lt_succ_of_le h)
    exact ⟨fun d p t q hp hd h=>Tx C d p t q hp hd h,fun k d p t q hp hk hd h=>Ss Cs k d p t q hp hk hd h,fun d p t q hp hd h=>Nw C d p t q hp hd h,fun a s d p t q hp hd h=>Sz C a s d p t q hp hd h,fun d p l q hp hd h=>U5 Cs d p l q hp hd h⟩
end Go.Xg
namespace Go.Xg
open GV (U)
open Go.RowKit Go.Xw Go.Proofs Tryz
open Go.Xp (Tok Nd T bz one levels ia eo eL dQ dz)
open Go.Sp
attribute [local irreducible] GW GL GO YG GC GA be bd
structure Lz (f:Nat):Prop where
 block:∀ d p t q,p.ok->d+f<=1099511627776->mS f (.block d) p=some (t,q)->GF prog 153 [.loc 0 0,.v (ii (d:Nat))] [cI p] (.agg (cT t)) [cI q]
 stmt:∀ d p t q,p.ok->d+f<=1099511627776->mS f (.stmt d) p=some (t,q)->GF prog 192 [.loc 0 0,.v (ii (d:Nat))] [cI p] (.agg (cT t)) [cI q]
 cond:∀ a d p t q,p.ok->p.i < p.l.length->d+f<=1099511627776->mS f (.cond a d) p=some (t,q)->GF prog 236 [.loc 0 0,.v (ii a),.v (ii (d:Nat))] [cI p] (.agg (cT t)) [cI q]
theorem yN (d:Nat) (p:RS) (t:T) (q:RS) (hp:p.ok) (hd:d<=1099511627777) (h:mX d p=some (t,q)):GF prog 235 [.loc 0 0,.v (ii (d:Nat))] [cI p] (.agg (cT t)) [cI q] :=
 (rds (fe p)).expr d p t q hp (by have:=hp.2;unfold fe;omega) h
theorem Kx (k a:Int) (s:ae):GF prog 188 [.v (ii k),.v (ii a),.v (sv s),.v (.slice none 0 0)] [] (.agg [.v (ii k),.v (ii a),.v (ii 0),.v (sv s),ints [],.v (.slice none 0 0)]) []:=by
 refine ah func188 ntmps188 ?_;refine rU ?_;exact ⟨_,ik,rfl,rfl⟩
theorem RU {f:Nat} (C:∀ f',f'<=f->Lz f') (d:Nat) (p:RS) (t:T) (q:RS) (hp:p.ok) (hd:d+(f+1)<=1099511627776) (h:mS (f+1) (.block d) p=some (t,q)) :
  GF prog 153 [.loc 0 0,.v (ii (d:Nat))] [cI p] (.agg (cT t)) [cI q]:=by
 rw [mS] at h;have lF:=(oW hp d).ok hp;have w8:=va p d hp;generalize p.deep d=p1 at *
 try simp only at h
 have ri:=(fJ lF (s:=[123]) aR).ok lF
 cases he:mB f (d+1) [] (p1.aP [123]) with
 | none=>rw [he] at h;cases h
 | some r =>
  obtain ⟨l,q1⟩:=r;rw [he] at h;cases h;generalize dJ:p1.place=pl;refine ah func153 ntmps153 ?_;refine V [0] w8 ?_;refine V [0] (lK p1 lF) ?_;refine V [] (Kx 14 p1.place []) ?_;refine V [0] (dq p1 [123] lF aR) ?_;rw [dJ];refine GW.wk (Wk.Gj (i:=2) (o:=5) 65 6 rfl rfl) ?_;refine GW.loop (fun x:Nat × List T × RS=>x.1) (fun x fr F=>∃ n rows,fr=[.loc 0 0,.v (ii (d:Nat)),U,U,.loc 1 0,.loc 2 0,U,U,U,U,U,U,U,U,U,U,U,U,U,U,U,U,U,U,U,U,U,U,U,U,U,U,U,U,U,U]/\F=[cI x.2.2,.box 65 zT,.box 65 [.v (ii 14),.v (ii pl),.v (ii 0),.v (sv []),ints [],.vec 3 n],.vec 65 6 0 rows]/\rows.length=n/\rows=aX x.2.1/\n+x.1<=f/\x.2.2.ok/\mB x.1 (d+1) x.2.1 x.2.2=some (l,q1)) (f,[],p1.aP [123]) ?_ ?_
  ·exact ⟨_,_,Wk.aE ao,0,[],rfl,rfl,rfl,rfl,by simp,ri,he⟩
  ·rintro ⟨g,acc,p⟩ _ _ ⟨n,rows,rfl,rfl,hn,bL,Aa,hp,h⟩;simp only at bL Aa hp h
   cases g with
   | zero=>simp [mB] at h
   | succ g =>
   rw [mB] at h
   by_cases hc:p.code=0
   ·have dP:(p.code==0)=true:=by simpa using hc
    by_cases hs:p.sign 0=[125]
    ·rw [M (fun hh=>hh.2 hs)] at h
     obtain ⟨rfl,rfl⟩:acc=l/\p=q1:=by simpa using h
     have o9:(!(p.sign 0==[125]))=false:=by simp [hs]
     subst bL;refine D ?_;refine V [0] (dr p 0 hp aR) ?_;refine jY ?_;refine D ?_;refine GL.wk (Wk.tw (i:=2) (o:=5) rfl rfl rfl rfl hn) ?_;refine cE ?_;refine V [0] (dq p [125] hp aR) ?_;exact dM
    ·rw [ab ⟨hc,hs⟩] at h
     have o9:(!(p.sign 0==[125]))=true:=by simpa using hs
     cases hb:mS g (.stmt (d+1)) p with
     | none=>rw [hb] at h;cases h
     | some r =>
      obtain ⟨a,p2⟩:=r;rw [hb] at h;simp only at h;have eh:=((KJ g).1 _ _ _ _ hp (fun a d' h=>by cases h) hb).ok hp;refine D ?_;refine V [0] (dr p 0 hp aR) ?_;refine aK (aC 0 5 (.a 5 (.a 6 (.a 7 (.q 8 (.a 9 .nil)))))) ?_;refine aj ?_;refine aI [0] ((C g G).stmt (d+1) p a p2 hp G hb) ?_;refine eY ?_;refine aj ?_;refine zG ?_;refine bq ?_;exact ⟨(g,acc++[a],p2),⟨_,_,Wk.aE ao,_,_,rfl,rfl,by simp [hn],by rw [ya,bL];rfl,by show n+1+g<=f;omega,eh,h⟩,by simp⟩
   ·have dP:(p.code==0)=false:=by simpa using hc
    rw [M (fun hh=>hc hh.1)] at h
    obtain ⟨rfl,rfl⟩:acc=l/\p=q1:=by simpa using h
    subst bL;refine cl ?_;refine D ?_;refine GL.wk (Wk.tw (i:=2) (o:=5) rfl rfl rfl rfl hn) ?_;refine cE ?_;refine V [0] (dq p [125] hp aR) ?_;exact dM
theorem Tr {f:Nat} (C:Lz f) (a:Int) (d:Nat) (p:RS) (t:T) (q:RS) (hp:p.ok) (ak:p.i < p.l.length) (hd:d+(f+1)<=1099511627776) (h:mS (f+1) (.cond a d) p=some (t,q)) :
  GF prog 236 [.loc 0 0,.v (ii a),.v (ii (d:Nat))] [cI p] (.agg (cT t)) [cI q]:=by
 rw [mS] at h
 try simp only at h
 have dD:=(dT ak).ok hp;have dJ:=hp.2;have ri:=(fJ dD (s:=[40]) aR).ok dD
 cases he:mX (d+1) (p.next.aP [40]) with
 | none=>rw [he] at h;cases h
 | some r =>
 obtain ⟨e,p1⟩:=r;rw [he] at h;simp only at h;have mz:=(pP ri he).ok ri;have FI:=(fJ mz (s:=[41]) aR).ok mz
 cases hb:mS f (.block (d+1)) (p1.aP [41]) with
 | none=>rw [hb] at h;cases h
 | some r =>
 obtain ⟨b,p2⟩:=r;rw [hb] at h;simp only at h;have eh:=((KJ f).1 _ _ _ _ FI (fun a d' h=>by cases h) hb).ok FI;have UE:=eh.2
 have key:∀ k:Int,(if k=9/\p2.sign 0=eL then match mS f (.block (d+1)) p2.next with
     | none=>none
     | some (b2,q)=>some (one k a [] [e,b,b2],q)
    else some (one k a [] [e,b],p2))=some (t,q)->p.ck=k->(k=9\/k=10)->((p.sign 0==[105,102])=true/\k=9)\/((p.sign 0==[105,102])=false/\k=10):=by
  intro k _ hk _;unfold RS.ck at hk;split at hk
  ·rename_i hs;exact .inl ⟨by rw [hs];rfl,hk.symm⟩
  ·rename_i hs;refine .inr ⟨?_,hk.symm⟩
   cases hq:(p.sign 0==[105,102]) with
   | false=>rfl
   | true=>exact absurd (eq_of_beq hq) hs
 have ue:p.ck=9\/p.ck=10:=by unfold RS.ck;split <;> simp
 have key:=key p.ck h rfl ue;generalize p.ck=k at h key;clear ue
 rcases key with ⟨hs,rfl⟩ | ⟨hs,rfl⟩
 ·by_cases eI:p2.sign 0=eL
  ·rw [ab ⟨rfl,eI⟩] at h
   have YW:(p2.sign 0==[101,108,115,101])=true:=by rw [eI];rfl
   have nP:=(fZ eI aR).1;have Zd:=(jX eI aR).ok eh
   cases fg:mS f (.block (d+1)) p2.next with
   | none=>rw [fg] at h;cases h
   | some r =>
   obtain ⟨b2,p3⟩:=r;rw [fg] at h;cases h;refine ah func236 ntmps236 ?_;refine V [0] (dr p 0 hp aR) ?_;refine V [0] (dq p.next [40] dD aR) ?_;refine V [0] (yN (d+1) _ e p1 ri G he) ?_;refine V [0] (dq p1 [41] mz aR) ?_;refine aK (aC 0 4 (.a 4 (.a 5 (.q 6 .nil)))) ?_;refine aj ?_;refine aI [0] (C.block (d+1) _ b p2 FI G hb) ?_;refine rR ?_;refine bq ?_;refine V [0] (dr p2 0 eh aR) ?_;refine hY [0] (C.block (d+1) _ b2 q Zd G fg) ?_;refine eu ?_;refine D ?_;refine GL.wk (Wk.jv (t:=57) rfl rfl rfl rfl) ?_;refine cE ?_;refine V [] (gO 9 a [] [e,b,b2] _ oX) ?_;exact dM
  ·rw [M (fun hh=>eI hh.2)] at h
   have YW:(p2.sign 0==[101,108,115,101])=false:=by
    cases hq:(p2.sign 0==[101,108,115,101]) with
    | false=>rfl
    | true=>exact absurd (eq_of_beq hq) eI
   cases h;refine ah func236 ntmps236 ?_;refine V [0] (dr p 0 hp aR) ?_;refine V [0] (dq p.next [40] dD aR) ?_;refine V [0] (yN (d+1) _ e p1 ri G he) ?_;refine V [0] (dq p1 [41] mz aR) ?_;refine aK (aC 0 4 (.a 4 (.a 5 (.q 6 .nil)))) ?_;refine aj ?_;refine aI [0] (C.block (d+1) _ b q FI G hb) ?_;refine rR ?_;refine bq ?_;refine V [0] (dr q 0 eh aR) ?_;refine GL.wk (Wk.jv (t:=57) rfl rfl rfl rfl) ?_;refine cE ?_;refine V [] (gO 9 a [] [e,b] _ oX) ?_;exact dM
 ·rw [M (fun hh=>by cases hh.1)] at h;cases h;refine ah func236 ntmps236 ?_;refine V [0] (dr p 0 hp aR) ?_;refine V [0] (dq p.next [40] dD aR) ?_;refine V [0] (yN (d+1) _ e p1 ri G he) ?_;refine V [0] (dq p1 [41] mz aR) ?_;refine aK (aC 0 4 (.a 4 (.a 5 (.q 6 .nil)))) ?_;refine aj ?_;refine aI [0] (C.block (d+1) _ b q FI G hb) ?_;refine rR ?_;refine bq ?_;refine GL.wk (Wk.jv (t:=57) rfl rfl rfl rfl) ?_;refine cE ?_;refine V [] (gO 10 a [] [e,b] _ oX) ?_;exact dM
theorem vH {s t:ae} (h:¬ s=t):(s==t)=false:=by
 cases hq:(s==t) with
 | false=>rfl
 | true=>exact absurd (eq_of_beq hq) h
theorem Vy {f:Nat} (C:Lz f) (d:Nat) (p:RS) (t:T) (q:RS) (hp:p.ok) (hd:d+(f+1)<=1099511627776) (h:mS (f+1) (.stmt d) p=some (t,q)) :
  GF prog 192 [.loc 0 0,.v (ii (d:Nat))] [cI p] (.agg (cT t)) [cI q]:=by
 rw [mS] at h;have lF:=(oW hp d).ok hp;have w8:=va p d hp;generalize p.deep d=p1 at *
 try simp only at h
 obtain ⟨DT,dJ⟩:=id lF;generalize uV:p1.place=at_ at h;refine ah func192 ntmps192 ?_;refine V [0] w8 ?_;refine V [0] (lK p1 lF) ?_;refine hY [0] (dr p1 0 lF aR) ?_;rw [uV]
 by_cases L:p1.sign 0=ia
 ·rw [ab L] at h
  have e1:(p1.sign 0==[118,97,114])=true:=by rw [L];rfl
  have ak:=(fZ L aR).1;have hn:=(jX L aR).ok lF;have eV:=(rQ hn).ok hn;have kH:=(fJ eV (s:=[61]) aR).ok eV
  cases he:mX (d+1) (p1.next.name.2.aP [61]) with
  | none=>rw [he] at h;cases h
  | some r =>
  obtain ⟨e,p2⟩:=r;rw [he] at h;cases h;have eh:=(pP kH he).ok kH;refine D ?_;refine V [0] (yL p1.next hn) ?_;refine V [0] (dq _ [61] eV aR) ?_;refine V [0] (yN (d+1) _ e p2 kH G he) ?_;refine V [0] (dq p2 [59] eh aR) ?_;refine cw ?_;refine D ?_;refine V [] (gO 13 at_ p1.next.name.1 [e] _ oX) ?_;exact dM
 rw [M L] at h;have e1:(p1.sign 0==[118,97,114])=false:=vH L
 by_cases I:p1.sign 0=eo\/p1.sign 0=dQ
 ·rw [ab I] at h
  have e2:(p1.sign 0==[105,102])=true\/((p1.sign 0==[105,102])=false/\(p1.sign 0==[119,104,105,108,101])=true):=by
   rcases I with I | I
   ·exact .inl (by rw [I];rfl)
   ·exact .inr ⟨by rw [I];rfl,by rw [I];rfl⟩
  have ak:p1.i < p1.l.length:=by
   rcases I with I | I
   ·exact (fZ I aR).1
   ·exact (fZ I aR).1
  rcases e2 with e2 | ⟨e2,e3⟩
  all_goals
   refine D ?_;refine V [0] (C.cond at_ d p1 t q lF ak G h) ?_;exact dM
 rw [M I] at h
 have e2:(p1.sign 0==[105,102])=false:=vH fun hh=>I (.inl hh)
 have e3:(p1.sign 0==[119,104,105,108,101])=false:=vH fun hh=>I (.inr hh)
 by_cases h4:p1.sign 0=dz
 ·rw [ab h4] at h
  have e4:(p1.sign 0==[114,101,116,117,114,110])=true:=by rw [h4];rfl
  have ak:=(fZ h4 aR).1;have hn:=(jX h4 aR).ok lF
  cases he:mX (d+1) p1.next with
  | none=>rw [he] at h;cases h
  | some r =>
  obtain ⟨e,p2⟩:=r;rw [he] at h;cases h;have eh:=(pP hn he).ok hn;refine D ?_;refine V [0] (yN (d+1) _ e p2 hn G he) ?_;refine V [0] (dq p2 [59] eh aR) ?_;refine cw ?_;refine D ?_;refine V [] (gO 11 at_ [] [e] _ oX) ?_;exact dM
 rw [M h4] at h;have e4:(p1.sign 0==[114,101,116,117,114,110])=false:=vH h4
 by_cases h5:p1.code=0/\p1.ov=true/\p1.sign 1=[61]
 ·rw [ab h5] at h;obtain ⟨hc,FH,iy⟩:=h5
  have dP:(p1.code==0)=true:=by simpa using hc
  have aaz:(p1.sign 1==[61])=true:=by rw [iy];rfl
  unfold RS.ov at FH
  cases ht:p1.l[p1.i]? with
  | none=>rw [ht] at FH;cases FH
  | some tk =>
  rw [ht] at FH
  have hk:(tk.kind==2)=true:=by simpa using FH
  have ak:=(bp ht).1
  have Pf:decide ((p1.i:Int) < ((p1.l.map dw).length:Int))=true:=by simpa using ak
  have hr:=lq ht;have eV:=(rQ lF).ok lF;have kH:=(fJ eV (s:=[61]) aR).ok eV
  cases he:mX (d+1) (p1.name.2.aP [61]) with
  | none=>rw [he] at h;cases h
  | some r =>
  obtain ⟨e,p2⟩:=r;rw [he] at h;cases h;have eh:=(pP kH he).ok kH;refine D ?_;refine aK (aC 0 33 (.a 33 (.q 34 (.q 35 .nil)))) ?_;refine aj ?_;refine bR [0] (dr p1 1 lF aR) ?_;refine D ?_;refine V [0] (yL p1 lF) ?_;refine V [0] (dq _ [61] eV aR) ?_;refine V [0] (yN (d+1) _ e p2 kH G he) ?_;refine V [0] (dq p2 [59] eh aR) ?_;refine cw ?_;refine D ?_;refine V [] (gO 7 at_ p1.name.1 [e] _ oX) ?_;exact dM
 rw [M h5] at h
 cases he:mX (d+1) p1 with
 | none=>rw [he] at h;cases h
 | some r =>
 obtain ⟨e,p2⟩:=r;rw [he] at h;simp only at h;have eh:=(pP lF he).ok lF;have UE:=eh.2
 have FW:(p1.code==0)=false\/((p1.code==0)=true/\p1.l.length<=p1.i)\/((p1.code==0)=true/\∃ tk,p1.l[p1.i]?=some tk/\((tk.kind==2)=false\/((tk.kind==2)=true/\(p1.sign 1==[61])=false))):=by
  by_cases hc:p1.code=0
  ·refine .inr ?_
   have dP:(p1.code==0)=true:=by simpa using hc
   cases ht:p1.l[p1.i]? with
   | none=>exact .inl ⟨dP,qV ht⟩
   | some tk =>
    refine .inr ⟨dP,tk,rfl,?_⟩
    by_cases hk:tk.kind=2
    ·refine .inr ⟨by simpa using hk,vH fun h61=>h5 ⟨hc,?_,h61⟩⟩;unfold RS.ov;rw [ht];simpa using hk
    ·exact .inl (by simpa using hk)
  ·exact .inl (by simpa using hc)
 refine D ?_;refine GW.join (fun fr F=>fr=[.loc 0 0,.v (ii (d:Nat)),U,U,.loc 1 0,.v (ii at_),U,U,U,U,U,U,U,U,U,U,U,U,U,U,U,U,U,U,U,U,U,U,U,U,U,U,U,U,U,U,U,U,U,U,U,U,U,U,U,U,U,U,U,U,U,U,U,U,U,U,U,U,U,U,U,U,U,U,U,U,U,U,U,U,U,U,U,U,U,U,U,U,U,U,U,U,U,U,U,U,U,U,U,U,U,U,U,U,U,U,U,U,U,U,U,U,U,U,U,.v (.bool false),U,U,U,U,U,U,U,U,U,U,U,U,U,U,U,U,U,U,U,U,U,U,U,U,U,U,U,U,U,U,U,U,U,U,U,U,U,U,U,U,U,U,U,U,U,U,U,U,U,U,U,U,U,U,U,U,U,U,U,U,U,U,U,U,U]/\F=[cI p1,.box 65 zT]) ?_ ?_
 ·rcases FW with dP | ⟨dP,mw⟩ | ⟨dP,tk,ht,hk | ⟨hk,iy⟩⟩
  ·refine aK (aC 0 33 (.a 33 (.q 34 (.q 35 .nil)))) ?_;refine aj ?_;exact aW ⟨_,_,Wk.aE ao,rfl,rfl⟩
  ·have Pf:decide ((p1.i:Int) < ((p1.l.map dw).length:Int))=false:=by simpa using mw
   refine aK (aC 0 33 (.a 33 (.q 34 (.q 35 .nil)))) ?_;refine aj ?_;exact aW ⟨_,_,Wk.aE ao,rfl,rfl⟩
  ·have ak:=(bp ht).1
   have Pf:decide ((p1.i:Int) < ((p1.l.map dw).length:Int))=true:=by simpa using ak
   have hr:=lq ht;refine aK (aC 0 33 (.a 33 (.q 34 (.q 35 .nil)))) ?_;refine aj ?_;exact aW ⟨_,_,Wk.aE ao,rfl,rfl⟩
  ·have ak:=(bp ht).1
   have Pf:decide ((p1.i:Int) < ((p1.l.map dw).length:Int))=true:=by simpa using ak
   have hr:=lq ht;refine aK (aC 0 33 (.a 33 (.q 34 (.q 35 .nil)))) ?_;refine aj ?_;refine bR [0] (dr p1 1 lF aR) ?_;exact aW ⟨_,_,Wk.aE (by repeat (first | exact tP.nil | refine tP.U ?_ | refine tP.eq rfl ?_ | refine tP.eq (by rw [iy]) ?_)),rfl,rfl⟩
 ·rintro _ _ ⟨rfl,rfl⟩;refine D ?_;refine V [0] (yN (d+1) _ e p2 lF G he) ?_
  by_cases k3:e.n.kind=3
  ·have k3':(e.n.kind==3)=true:=by simpa using k3
   by_cases ka:e.n.at_=at_
   ·have ka':(e.n.at_==at_)=true:=by simpa using ka
    by_cases ks:p2.sign 0=[61]
    ·have ks':(p2.sign 0==[61])=true:=by rw [ks];rfl
     rw [ab ⟨k3,ka,ks⟩] at h;have ak:=(fZ ks aR).1;have hn:=(jX ks aR).ok eh
     cases hk:e.kids with
     | nil=>rw [hk] at h;cases h
     | cons a rest =>
     cases hv:mX (d+1) p2.next with
     | none=>rw [hk,hv] at h;cases h
     | some r =>
     obtain ⟨v,p3⟩:=r;rw [hk,hv] at h;cases h;have Ac:=(pP hn hv).ok hn
     have hr:(aX (a::rest))[0]?=some (cT a):=by simp [aX,vM]
     refine D ?_;refine V [0] (dr p2 0 eh aR) ?_;refine V [0] (yN (d+1) _ v p3 hn G hv) ?_;refine V [0] (dq p3 [59] Ac aR) ?_;refine aK (aC 0 9 (.a 9 (.a 10 (.a 11 .nil)))) ?_;refine aj ?_;refine eY ?_;refine aj ?_;refine iH [] (gO 8 at_ e.n.s [a,v] _ oX) ?_;refine G8 ?_;refine aj ?_;exact pY
    ·have ks':(p2.sign 0==[61])=false:=vH ks;rw [M (fun hh=>ks hh.2.2)] at h;cases h;refine D ?_;refine V [0] (dr p2 0 eh aR) ?_;refine V [0] (dq p2 [59] eh aR) ?_;refine cw ?_;refine D ?_;refine V [] (gO 12 at_ [] [e] _ oX) ?_;exact dM
   ·have ka':(e.n.at_==at_)=false:=by simpa using ka
    rw [M (fun hh=>ka hh.2.1)] at h;cases h;refine D ?_;refine V [0] (dq p2 [59] eh aR) ?_;refine cw ?_;refine D ?_;refine V [] (gO 12 at_ [] [e] _ oX) ?_;exact dM
  ·have k3':(e.n.kind==3)=false:=by simpa using k3
   rw [M (fun hh=>k3 hh.1)] at h;cases h;refine D ?_;refine V [0] (dq p2 [59] eh aR) ?_;refine cw ?_;refine D ?_;refine V [] (gO 12 at_ [] [e] _ oX) ?_;exact dM
theorem sds (f:Nat):Lz f:=by
 induction f using Nat.strongRecOn with
 | _ f ih =>
  cases f with
  | zero=>exact ⟨fun d p t q _ _ h=>by simp [mS] at h,fun d p t q _ _ h=>by simp [mS] at h,fun a d p t q _ _ _ h=>by simp [mS] at h⟩
  | succ f =>
   have C:=ih f (Nat.lt_succ_self f)
   have Cs:∀ f',f'<=f->Lz f':=fun f' h=>ih f' (Nat.lt_succ_of_le h)
   exact ⟨fun d p t q hp hd h=>RU Cs d p t q hp hd h,fun d p t q hp hd h=>Vy C d p t q hp hd h,fun a d p t q hp hl hd h=>Tr C a d p t q hp hl hd h⟩
end Go.Xg
namespace Go.Xg
open GV (U)
open Go.RowKit Go.Xw Go.Proofs Tryz
open Go.Xp (Tok Nd T bz one levels Ar)
open Go.Sp
attribute [local irreducible] GW GL GO YG GC GA be bd
def aw (n:Nd):List GV:=[.v (ii n.kind),.v (ii n.at_),.v (ii n.n),.v (sv n.s),ints n.kids]
def au (f:Go.Sp.Fn):List GV:=[.v (sv f.name),strs f.params,.v (ii f.body)]
def az (a:Ar):List GV:=[.v (sv a.name),.v (ii a.size)]
abbrev ar (p:Src):List GV:=[strs p.globals,.sl 2 (p.arrays.map az),.sl 3 (p.fns.map au),.sl 5 (p.nodes.map aw)]
theorem HC (k:Int):GF prog 258 [.v (ii k)] [] (.v (.bool (nF k))) []:=by
 unfold nF;refine cY func258 ntmps258 ?_
 cases h:decide ((1:Int)<=k)
 all_goals
  exact ay
theorem HD (k:Int):GF prog 226 [.v (ii k)] [] (.v (.bool (gU k))) []:=by
 unfold gU;refine cY func226 ntmps226 ?_
 cases h:decide ((7:Int)<=k)
 all_goals
  exact ay
theorem uq (s:ae):GF prog 225 [.v (sv s)] [] (.v (.bool (eZ s))) []:=by
 refine ah func225 ntmps225 ?_;refine V [] kx ?_;refine GW.range (levels.map fun l=>[strs l]).length (fun k fr F=>fr=[.v (sv s),U,U,U,U,.sl 1 (levels.map fun l=>[strs l]),.v (ii ((levels.map fun l=>[strs l]).length:Int)),.v (ii (k:Nat)),U,U,U,U,U,U,U]/\F=[]/\((levels.take k).any fun l=>l.contains s)=false) ?_ aR ?_ ?_ ?_
 ·exact kQ
 ·exact iI
 ·rintro k _ _ hk ⟨rfl,rfl,hf⟩
  have hk:k < levels.length:=by simpa using hk
  have hx:levels[k]?=some levels[k]:=by simp [hk]
  have hr:(levels.map fun l=>[strs l])[k]?=some [strs levels[k]]:=by simp [hk]
  have Ad:levels[k].length<=1099511627776:=by
   have:∀ l∈levels,l.length<=1099511627776:=by decide
   exact this _ (getElem_mem hk)
  generalize levels[k]=x at *;have hh:=jo x s Ad
  cases hb:x.contains s with
  | true =>
   rw [hb] at hh
   have ha:eZ s=true:=by
    unfold eZ;rw [oY];exact ⟨x,bF hx,hb⟩
   refine D ?_;refine V [] hh ?_;refine cv ?_;rw [ha];exact ⟨rfl,rfl⟩
  | false =>
   rw [hb] at hh;refine D ?_;refine V [] hh ?_;exact ⟨rfl,rfl,_,_,Wk.aE ao,rfl,rfl,by rw [cm,hx,List.any_append,hf];simp only [Option.toList,List.any_cons,List.any_nil,hb];rfl⟩
 ·rintro _ _ ⟨rfl,rfl,hf⟩
  have hf:eZ s=false:=by
   rw [lS (by simp)] at hf;exact hf
  refine D ?_;refine cv ?_;rw [hf];exact ⟨rfl,rfl⟩
theorem dk {l:List T} {i:Nat} {t:T} (h:l[i]?=some t):(aX l)[i]?=some (cT t):=by
 induction l generalizing i with
 | nil=>simp at h
 | cons a l ih =>
  cases i with
  | zero=>cases h;simp [aX,vM]
  | succ i=>simpa [aX] using ih (by simpa using h)
theorem fB (t:T) (m:Nat) (hl:t.kids.length<=1099511627776):GF prog 224 [.agg (cT t),.v (ii (m:Nat))] [] (.v (.bool (bB m 0 t.kids))) []:=by
 refine ah func224 ntmps224 ?_;refine GW.range (aX t.kids).length (fun k fr F=>fr=[U,.v (ii (m:Nat)),U,U,U,U,U,U,.sl 6 (aX t.kids),.v (ii ((aX t.kids).length:Int)),.v (ii (k:Nat)),U,U,U,U,U,U,U,U,U,U,U,U,U,U,U,U,U,U,U,U,U,U,U,U,U,U]/\F=[]/\bB m k (t.kids.drop k)=bB m 0 t.kids) ?_ (by rw [aZ];exact hl) ?_ ?_ ?_
 ·exact ⟨_,_,(Wk.cut (n:=0) (aD _) rfl).trans (Wk.aE ao),rfl,rfl,rfl⟩
 ·exact iI
 ·rintro k _ _ hk ⟨rfl,rfl,hf⟩
  have hk:k < t.kids.length:=by rw [aZ] at hk;exact hk
  have hx:t.kids[k]?=some t.kids[k]:=by simp [hk]
  have hr:=dk hx;rw [kW hk,bB] at hf;generalize t.kids[k]=x at *;have he:=HC x.n.kind
  by_cases hm:k < m
  ·have hm1:decide ((k:Int) < (m:Int))=true:=by simpa using hm
   have z8:decide ((m:Int)<=(k:Int))=false:=by simpa using hm
   rw [ab hm] at hf
   cases hb:nF x.n.kind with
   | true =>
    rw [hb] at he hf;refine D ?_;refine V [] he ?_;exact ⟨rfl,rfl,_,_,(Wk.cut (n:=0) (aD _) rfl).trans (Wk.aE ao),rfl,rfl,by simpa using hf⟩
   | false =>
    rw [hb] at he hf;refine D ?_;refine V [] he ?_;refine cv ?_;rw [<-hf];exact ⟨rfl,rfl⟩
  ·have hm1:decide ((k:Int) < (m:Int))=false:=by simp;omega
   have z8:decide ((m:Int)<=(k:Int))=true:=by simp;omega
   rw [M hm] at hf
   cases hb:(x.n.kind==14) with
   | true =>
    rw [hb] at hf
    have bC:(x.n.kind != 14)=false:=by simp only [bne,hb];rfl
    refine D ?_;exact ⟨rfl,rfl,_,_,(Wk.cut (n:=0) (aD _) rfl).trans (Wk.aE ao),rfl,rfl,by simpa using hf⟩
   | false =>
    rw [hb] at hf
    have bC:(x.n.kind != 14)=true:=by simp only [bne,hb];rfl
    refine D ?_;refine cv ?_;rw [<-hf];exact ⟨rfl,rfl⟩
 ·rintro _ _ ⟨rfl,rfl,hf⟩;rw [aZ,List.drop_length,bB] at hf;refine D ?_;refine cv ?_;rw [<-hf];exact ⟨rfl,rfl⟩
theorem nm {l:List Nd} {i:Nat} {n:Nd} (h:l[i]?=some n):(l.map aw)[i]?=some (aw n):=by rw [aV,h];rfl
theorem tH {l:List Int} {i:Nat} {n:Int} (h:l[i]?=some n):(l.map fun i=>[GV.v (ii i)])[i]?=some [.v (ii n)]:=by rw [aV,h];rfl
theorem EM (p:Src) (hk:∀ n∈p.nodes,n.kids.length<=1000000000000):∀ (f a:Nat) (t:T),sub p.nodes f a=some t->GF prog 84 [.agg (ar p),.v (ii (a:Nat))] [] (.agg (cT t)) []:=by
 intro f
 induction f using Nat.strongRecOn with
 | _ f ih =>
 intro a t h
 cases f with
 | zero=>simp [sub] at h
 | succ f =>
 rw [sub] at h
 cases hn:p.nodes[a]? with
 | none=>rw [hn] at h;cases h
 | some n =>
 rw [hn] at h;simp only at h
 cases hs:ph p.nodes f n.kids [] with
 | none=>rw [hs] at h;cases h
 | some l =>
 rw [hs] at h;cases h;have hr:=nm hn;have iT:=hk n (bF hn);refine ah func84 ntmps84 ?_;refine GW.wk (Wk.Gj (i:=2) (o:=5) 65 6 rfl rfl) ?_
 refine GW.range (n.kids.map fun i=>[GV.v (ii i)]).length (fun k fr F=>∃ rows acc g,fr=[U,.v (ii (a:Nat)),.loc 0 0,U,.loc 1 0,.loc 2 0,U,U,U,U,U,U,U,U,U,U,U,U,U,ints n.kids,.v (ii ((n.kids.map fun i=>[GV.v (ii i)]).length:Int)),.v (ii (k:Nat)),U,U,U,U,U,U,U,U,U,U,U,U,U] /\
   F=[.box 33 (ar p),.box 65 zT,.box 65 [.v (ii n.kind),.v (ii n.at_),.v (ii n.n),.v (sv n.s),ints n.kids,.vec 3 k],.vec 65 6 0 rows] /\
   rows.length=k/\rows=aX acc/\g<=f/\ph p.nodes g (n.kids.drop k) acc=some l) ?_ (by simp;omega) ?_ ?_ ?_
 ·exact ⟨_,_,Wk.aE ao,[],[],f,rfl,rfl,rfl,rfl,aD _,hs⟩
 ·rintro k _ _ ⟨_,_,_,rfl,rfl,_⟩;exact et
 ·rintro k _ _ ak ⟨rows,acc,g,rfl,rfl,FM,bL,hg,h⟩
  have ak:k < n.kids.length:=by simpa using ak
  have hx:n.kids[k]?=some n.kids[k]:=by simp [ak]
  rw [kW ak] at h;generalize n.kids[k]=x at *
  cases g with
  | zero=>simp [ph] at h
  | succ g =>
  rw [ph] at h
  by_cases rm:x < 0
  ·rw [ab rm] at h;cases h
  rw [M rm] at h
  cases cz:sub p.nodes g x.toNat with
  | none=>rw [cz] at h;cases h
  | some t =>
  rw [cz] at h;simp only at h;have zo:=ih g G x.toNat t cz;rw [Int.toNat_of_nonneg G] at zo;have yD:=tH hx;refine D ?_;refine aK (aC 0 4 (.a 4 (.a 5 (.a 6 (.q 7 (.a 8 .nil)))))) ?_;refine aj ?_;refine aI [] zo ?_;refine eY ?_;refine aj ?_;refine zG ?_;refine bq ?_;exact ⟨rfl,rfl,_,_,Wk.aE ao,_,acc++[t],g,rfl,rfl,by rw [aU,FM];rfl,by rw [ya,bL];rfl,by omega,h⟩
 ·rintro _ _ ⟨rows,acc,g,rfl,rfl,FM,bL,hg,h⟩;rw [bP,List.drop_length] at h
  have l0:acc=l:=by cases g <;> (rw [ph] at h;cases h;rfl)
  subst l0;subst bL;refine aW (GW.wk (Wk.tw (i:=2) (o:=5) rfl rfl rfl rfl FM) ?_);exact pY
end Go.Xg
namespace Go.Xg
open Go.RowKit Go.Xw Go.Proofs Go.WideShapes Go.Deep
open Go.Xp (Nd Ar)
open Go.Sp (Src)
open Go.Im (Small qm)
def flat (v:Value):Prop:=∀ a n c,v≠.slice a n c
def wL (W:World) (v:Value) (xs:List Value):Prop:=∃ a c,v=.slice a xs.length c/\(xs=[]\/∃ b o,a=some ⟨b,o,none⟩/\xs.length<=c/\∀ i x,xs[i]?=some x->gq W.heap b (o+i)=some x/\flat x)
theorem wL.uniq {W:World} {v:Value} {xs ys:List Value} (h:wL W v xs) (k:wL W v ys):xs=ys:=by
 obtain ⟨a,c,L,I⟩:=h;obtain ⟨a',c',k1,k2⟩:=k;rw [L] at k1
 injection k1 with e1 e2 e3
 subst e1 e3
 rcases I with rfl | ⟨b,o,h3,h4,h5⟩
 ·exact (List.eq_nil_of_length_eq_zero (by simpa using e2.symm)).symm
 ·rcases k2 with rfl | ⟨b',o',k3,k4,k5⟩
  ·exact List.eq_nil_of_length_eq_zero (by simpa using e2)
  ·rw [h3] at k3;cases k3;apply ext_getElem e2;intro i hi hj;have a1:=(h5 i _ (getElem?_eq_getElem hi)).1;have a2:=(k5 i _ (getElem?_eq_getElem hj)).1;rw [a1] at a2;exact Option.some.inj a2
open Classical in
noncomputable def KW (W:World):Fz:=fun b o=>match gq W.heap b o with
 | none=>none
 | some v=>if ∃ a n c,v=.slice a n c then (if h:∃ xs,wL W v xs then some (.sl 1 (h.choose.map fun x=>[.v x])) else none) else some (.v v)
theorem mo {W:World} {b o:Nat} {v:Value} (h:gq W.heap b o=some v) (hf:flat v):KW W b o=some (.v v):=by
 unfold KW;rw [h];simp only;rw [if_neg (by rintro ⟨a,n,c,e⟩;exact hf a n c e)]
theorem Qw {W:World} {b o:Nat} {v:Value} {xs:List Value} (h:gq W.heap b o=some v) (hx:wL W v xs):KW W b o=some (.sl 1 (xs.map fun x=>[.v x])):=by
 have hs:∃ a n c,v=.slice a n c:=by obtain ⟨a,c,e,_⟩:=hx;exact ⟨_,_,_,e⟩
 have hex:∃ xs,wL W v xs:=⟨xs,hx⟩;unfold KW;rw [h];simp only;rw [if_pos hs,dif_pos hex,hex.choose_spec.uniq hx]
theorem NI {W:World} {v:Value} {xs:List Value} (hx:wL W v xs) (β:Bt):Rel (KW W) β v (.sl 1 (xs.map fun x=>[GV.v x])):=by
 obtain ⟨a,c,rfl,h⟩:=hx
 rcases h with rfl | ⟨b,o,rfl,hc,mf⟩
 ·exact .sl0 a c 1
 ·have:=Rel.sl (K:=KW W) (β:=β) b o c 1 (xs.map fun x=>[GV.v x]) (fun i r hr=>by
   rw [getElem?_map] at hr
   cases hi:xs[i]? with
   | none=>rw [hi] at hr;cases hr
   | some x =>
    rw [hi] at hr;cases hr;obtain ⟨L,I⟩:=mf i x hi;refine ⟨rfl,fun j g hg=>?_⟩
    cases j with
    | zero=>cases hg;rw [Nat.mul_one,Nat.add_zero];exact mo L I
    | succ j=>simp at hg) (by rw [length_map];exact hc)
  rw [length_map] at this;exact this
theorem VT (W:World):kC (KW W) W:=fun b o g h=>by
 unfold KW at h
 cases hc:gq W.heap b o with
 | none=>rw [hc] at h;cases h
 | some v =>
  rw [hc] at h;simp only at h;split at h
  ·split at h
   ·rename_i hex;cases h;exact ⟨rfl,v,rfl,NI hex.choose_spec _⟩
   ·cases h
  ·cases h;exact ⟨rfl,v,rfl,.v v⟩
theorem PZ {W:World} {v:Value} {k:Nat} {rows:List (List GV)} {a:Option Addr} {n c:Nat} (β:Bt) (hv:v=.slice a n c) (hn:rows.length=n)
  (h:n=0\/∃ b o,a=some ⟨b,o,none⟩/\n<=c/\∀ i r,rows[i]?=some r->r.length=k/\∀ j g,r[j]?=some g->KW W b (o+i * k+j)=some g):Rel (KW W) β v (.sl k rows):=by
 subst hv hn
 rcases h with h | ⟨b,o,rfl,hc,hr⟩
 ·have:=List.eq_nil_of_length_eq_zero h;subst this;exact .sl0 a c k
 ·exact .sl b o c k rows hr hc
theorem Az {W:World} {a:Addr} {n:Nat} {v:Value} (h:W.cell? (a.add n)=some v):gq W.heap a.block (a.off+n)=some v:=by
 unfold Addr.add at h;split at h
 ·rename_i h0;subst h0;obtain ⟨b,o,s⟩:=a;have hs:=World.cell?_spot h;simp only at hs;subst hs;rw [fG] at h;exact h
 ·obtain ⟨b,o,s⟩:=a;simp only at h;rw [fG] at h;exact h
theorem Ax {W:World} {a:Addr} {v:Value} (h:W.cell? (a.add 0)=some v):a.spot=none:=by
 have:=World.cell?_spot h;unfold Addr.add at this;rw [if_pos rfl] at this;exact this
theorem rZ {α:Type} {Q:Nat->α->Prop}:∀ {n:Nat},(∀ i,i < n->∃ x,Q i x)->∃ l:List α,l.length=n/\∀ i x,l[i]?=some x->Q i x
 | 0,_=>⟨[],rfl,fun i x h=>by simp at h⟩
 | n+1,h=>by
  obtain ⟨l,L,I⟩:=rZ (n:=n) fun i hi=>h i G
  obtain ⟨x,hx⟩:=h n G;refine ⟨l++[x],by simp [L],fun i y hi=>?_⟩
  by_cases sV:i < n
  ·rw [List.getElem?_append_left G] at hi;exact I i y hi
  ·have ak:=(List.getElem?_eq_some_iff.1 hi).1;rw [length_append,length_cons,length_nil] at ak
   have:i=n:=by omega
   subst this;rw [List.getElem?_append_right G,L,Nat.sub_self] at hi
   cases hi;exact hx
theorem max_le {n:Nat} (h:n<=maxLen):n<=9223372036854775807:=by unfold maxLen at h;omega
section
variable {H:Type} {enc:TypeId × Value->H} {P:Program} {W:World}
theorem Gm {t e:TypeId} {n:Nat} {v:Value} {y:DataW H × List MemPlace} (ht:P.underlying t=some (.slice e)) (he:P.underlying e=some .string) (hc:P.cellsOf e=1) (h:DataW.trod enc P W 0 (fun _=>true) true n t [v]=some y) :
  ∃ l:List ae,wL W v (l.map sv)/\l.length<=9223372036854775807/\∀ s∈l,s.length<=9223372036854775807:=by
 rcases open_slice1 ht hc h with ⟨fT,_⟩ | ⟨a,len,cap,m,n',aaF,aaG,Pl,fT,_,hl,hm,sn,_,hx⟩
 ·injection fT with hv;subst hv
  exact ⟨[],⟨none,0,rfl,.inl rfl⟩,Nat.zero_le _,fun s h=>by cases h⟩
 ·injection fT with hv _;subst hv
  simp only [if_true] at sn
  obtain ⟨l,L,I⟩:=rZ (n:=len) (Q:=fun i (s:ae)=>W.cell? (a.add i)=some (sv s)/\s.length<=9223372036854775807) (fun i hi=>by
   obtain ⟨c1,c2⟩:=hx i G;obtain ⟨s,hs,_,hz⟩:=DataW.trod_string he c2
   injection hs with hs _
   rw [hs] at c1
   exact ⟨s.data.toList,by rw [<-EN];exact c1,max_le hz⟩)
  refine ⟨l,⟨some a,cap,by rw [length_map,L],?_⟩,by rw [L];exact max_le (Nat.le_trans hl hm),fun s hs=>?_⟩
  ·by_cases h0:len=0
   ·have:l=[]:=List.eq_nil_of_length_eq_zero G;subst this;exact .inl rfl
   ·refine .inr ⟨a.block,a.off,?_,by rw [length_map,L];exact hl,fun i x hi=>?_⟩
    ·have yx:l[0]?=some (l[0]'G):=getElem?_eq_getElem _;have:=Ax (I 0 _ yx).1;obtain ⟨b,o,s⟩:=a;simp only at this;rw [this]
    ·rw [getElem?_map] at hi
     cases xK:l[i]? with
     | none=>rw [xK] at hi;cases hi
     | some s =>
      rw [xK] at hi;cases hi;exact ⟨Az (I i s xK).1,fun a n c e=>by cases e⟩
  ·obtain ⟨i,hi⟩:=List.getElem?_of_mem hs;exact (I i s hi).2
theorem PU {t e:TypeId} {n:Nat} {v:Value} {y:DataW H × List MemPlace} (ht:P.underlying t=some (.slice e)) (he:P.underlying e=some (.int .i64)) (hc:P.cellsOf e=1) (h:DataW.trod enc P W 0 (fun _=>true) true n t [v]=some y) :
  ∃ l:List Int,wL W v (l.map ii)/\l.length<=9223372036854775807:=by
 rcases open_slice1 ht hc h with ⟨fT,_⟩ | ⟨a,len,cap,m,n',aaF,aaG,Pl,fT,_,hl,hm,sn,_,hx⟩
 ·injection fT with hv;subst hv
  exact ⟨[],⟨none,0,rfl,.inl rfl⟩,Nat.zero_le _⟩
 ·injection fT with hv _;subst hv
  simp only [if_true] at sn
  obtain ⟨l,L,I⟩:=rZ (n:=len) (Q:=fun i (z:Int)=>W.cell? (a.add i)=some (ii z)) (fun i hi=>by
   obtain ⟨c1,c2⟩:=hx i G;obtain ⟨z,hs,_,hz⟩:=DataW.trod_int he c2
   injection hs with hs _
   rw [hs] at c1
   exact ⟨z,c1⟩)
  refine ⟨l,⟨some a,cap,by rw [length_map,L],?_⟩,by rw [L];exact max_le (Nat.le_trans hl hm)⟩
  by_cases h0:len=0
  ·have:l=[]:=List.eq_nil_of_length_eq_zero G;subst this;exact .inl rfl
  ·refine .inr ⟨a.block,a.off,?_,by rw [length_map,L];exact hl,fun i x hi=>?_⟩
   ·have yx:l[0]?=some (l[0]'G):=getElem?_eq_getElem _;have:=Ax (I 0 _ yx);obtain ⟨b,o,s⟩:=a;simp only at this;rw [this]
   ·rw [getElem?_map] at hi
    cases xK:l[i]? with
    | none=>rw [xK] at hi;cases hi
    | some s =>
     rw [xK] at hi;cases hi;exact ⟨Az (I i s xK),fun a n c e=>by cases e⟩
theorem A4 {α:Type} {t e:TypeId} {fs:Array Field} {k n:Nat} {v:Value} {y:DataW H × List MemPlace} (f:α->List GV) (Q:α->Prop) (β:Bt) (ht:P.underlying t=some (.slice e)) (he:P.underlying e=some (.struct fs)) (gB:oneCellFields P fs=true) (hC:P.cellsOf e=k) (hk:fs.size=k) (z7:0 < k)
  (each:∀ b o,(∀ (j:Nat) (fl:Field),fs[j]?=some fl->∃ v y n,gq W.heap b (o+j)=some v/\DataW.trod enc P W 0 (fun _=>true) true n fl.type [v]=some y)->∃ x,Q x/\(f x).length=k/\∀ j g,(f x)[j]?=some g->KW W b (o+j)=some g)
  (h:DataW.trod enc P W 0 (fun _=>true) true n t [v]=some y):∃ l:List α,Rel (KW W) β v (.sl k (l.map f))/\l.length<=9223372036854775807/\∀ x∈l,Q x:=by
 rcases open_slice ht h with ⟨fT,_⟩ | ⟨a,len,cap,m,n',aaG,Pl,fT,_,hl,hm,sn,_,hx⟩
 ·injection fT with hv;subst hv
  exact ⟨[],.sl0 none 0 k,Nat.zero_le _,fun s h=>by cases h⟩
 ·injection fT with hv _;subst hv
  simp only [if_true] at sn
  have mf:∀ i,i < len->∀ (j:Nat) (fl:Field),fs[j]?=some fl->∃ v y n,W.cell? (a.add (i * k+j))=some v/\DataW.trod enc P W 0 (fun _=>true) true n fl.type [v]=some y:=by
   intro i hi j fl hj;obtain ⟨zP,hc,FU⟩:=hx i G;rw [hC] at hc;obtain ⟨ys,n',BD,hy,hlen,XN,hf⟩:=DataW.trod_struct he FU;obtain ⟨_,Mx,uV⟩:=World.cells?_some hc;obtain ⟨ho,xI⟩:=hone_of gB j fl hj;have yv:j < fs.size:=(Array.getElem?_eq_some_iff.1 hj).1;have mf:=uV j G;have hv:zP[j]?=some (zP[j]'G):=getElem?_eq_getElem G;have L:=hf j fl hj;rw [ho,xI] at L
   have Wi:(zP.drop j).take 1=[zP[j]'G]:=by
    rw [List.drop_eq_getElem_cons G];rfl
   rw [Wi] at L;have UN:ys[j]?=some (ys[j]'G):=getElem?_eq_getElem G;refine ⟨_,_,_,?_,L.trans UN⟩;rw [<-Go.Deep.add_add,mf,hv]
  obtain ⟨l,L,I⟩:=rZ (n:=len) (Q:=fun i x=>Q x/\(f x).length=k/\∀ j g,(f x)[j]?=some g->KW W a.block (a.off+i * k+j)=some g) (fun i hi =>
   each a.block (a.off+i * k) fun j fl hj=>by
    obtain ⟨v,y,n,c1,c2⟩:=mf i hi j fl hj
    exact ⟨v,y,n,by rw [Nat.add_assoc];exact Az c1,c2⟩)
  refine ⟨l,PZ (n:=len) (c:=cap) β rfl (by rw [length_map,L]) ?_,by rw [L];exact max_le (Nat.le_trans hl hm),fun x hx=>?_⟩
  ·by_cases h0:len=0
   ·exact .inl h0
   ·refine .inr ⟨a.block,a.off,?_,hl,fun i r hr=>?_⟩
    ·obtain ⟨v,y,n,c1,c2⟩:=mf 0 G 0 (fs[0]'G) (Array.getElem?_eq_getElem G);rw [Nat.zero_mul,Nat.add_zero] at c1;have:=Ax c1;obtain ⟨b,o,s⟩:=a;simp only at this;rw [this]
    ·rw [getElem?_map] at hr
     cases xK:l[i]? with
     | none=>rw [xK] at hr;cases hr
     | some x =>
      rw [xK] at hr;cases hr;exact (I i x xK).2
  ·obtain ⟨i,hi⟩:=List.getElem?_of_mem hx;exact (I i x hi).1
end
theorem GQ (l:List ae):GV.sl 1 ((l.map sv).map fun x=>[GV.v x])=strs l:=by rw [map_map];rfl
theorem Pp (l:List Int):GV.sl 1 ((l.map ii).map fun x=>[GV.v x])=ints l:=by rw [map_map];rfl
theorem wf_i64 {z:Int} (h:(Lit.int .i64 z).wf=true) : -9223372036854775808<=z/\z<=9223372036854775807:=by
 simp only [Lit.wf,Bool.and_eq_true,decide_eq_true_eq] at h
 have L:IntKind.min .i64 = -9223372036854775808:=by decide
 have I:IntKind.max .i64=9223372036854775807:=by decide
 rw [L,I] at h;exact h
theorem vN (z:Int):flat (ii z):=fun a n c e=>by cases e
section
variable {H:Type} {enc:TypeId × Value->H} {W:World}
theorem Gn (β:Bt) {v:Value} {d:DataW H} {ps:List MemPlace} {r:Reach} {b0:Nat} (hv:Value.okWide Tryz.prog W r b0 27 v) (h:DataW.Trod enc Tryz.prog W 0 (fun _=>true) true 27 v d ps) :
  ∃ p:Src,Rel (KW W) β v (.agg (ar p))/\Small p 9223372036854775807/\qm p:=by
 obtain ⟨v0,v1,v2,v3,y0,y1,y2,y3,n,rfl,_,_,h0,L,I,h3⟩:=Go.Joins.open_agg4 Tryz.underlying27 (by kernel_rfl) (by kernel_rfl) hv h
 have c9:Tryz.prog.cellsOf 9=1:=by kernel_rfl
 have c3:Tryz.prog.cellsOf 3=1:=by kernel_rfl
 obtain ⟨gs,g1,g2,g3⟩:=Gm Tryz.underlying22 Tryz.underlying9 c9 h0
 obtain ⟨sR,a1,a2,a3⟩:=A4 az (fun x=>x.name.length<=9223372036854775807 /\ -9223372036854775808<=x.size/\x.size<=9223372036854775807) β Tryz.underlying23 Tryz.underlying101 (by kernel_rfl) (k:=2) (by kernel_rfl) rfl G (fun b o hf=>by
  obtain ⟨u0,z0,n0,x0,w0⟩:=hf 0 _ rfl;obtain ⟨u1,z1,n1,x1,w1⟩:=hf 1 _ rfl;obtain ⟨s,hs,_,hz⟩:=DataW.trod_string Tryz.underlying9 w0;obtain ⟨z,iy,_,Rb⟩:=DataW.trod_int Tryz.underlying3 w1
  injection hs with hs _
  injection iy with iy _
  subst hs iy;refine ⟨⟨s.data.toList,z⟩,⟨max_le hz,wf_i64 Rb⟩,rfl,fun j g hg=>?_⟩
  match j,hg with
  | 0,hg=>cases hg;rw [<-EN];exact mo x0 fun a n c e=>by cases e
  | 1,hg=>cases hg;exact mo x1 (vN z)
  | j+2,hg=>simp [az] at hg) L
 obtain ⟨fs,cX,kc,pR⟩:=A4 au (fun x=>x.name.length<=9223372036854775807/\x.params.length<=9223372036854775807/\∀ s∈x.params,s.length<=9223372036854775807) β Tryz.underlying24 Tryz.underlying103 (by kernel_rfl) (k:=3) (by kernel_rfl) rfl G (fun b o hf=>by
  obtain ⟨u0,z0,n0,x0,w0⟩:=hf 0 _ rfl;obtain ⟨u1,z1,n1,x1,w1⟩:=hf 1 _ rfl;obtain ⟨u2,z2,n2,x2,w2⟩:=hf 2 _ rfl;obtain ⟨s,hs,_,hz⟩:=DataW.trod_string Tryz.underlying9 w0;obtain ⟨l,fR,jc,Ur⟩:=Gm Tryz.underlying22 Tryz.underlying9 c9 w1;obtain ⟨z,iy,_,Rb⟩:=DataW.trod_int Tryz.underlying3 w2
  injection hs with hs _
  injection iy with iy _
  subst hs iy;refine ⟨⟨s.data.toList,l,z⟩,⟨max_le hz,jc,Ur⟩,rfl,fun j g hg=>?_⟩
  match j,hg with
  | 0,hg=>cases hg;rw [<-EN];exact mo x0 fun a n c e=>by cases e
  | 1,hg=>cases hg;rw [Qw x1 fR,GQ]
  | 2,hg=>cases hg;exact mo x2 (vN z)
  | j+3,hg=>simp [au] at hg) I
 obtain ⟨ns,k1,k2,k3⟩:=A4 aw (fun x=>(x.s.length<=9223372036854775807/\x.kids.length<=9223372036854775807) /\ -9223372036854775808<=x.n/\x.n<=9223372036854775807) β Tryz.underlying25 Tryz.underlying105 (by kernel_rfl) (k:=5) (by kernel_rfl) rfl G (fun b o hf=>by
  obtain ⟨u0,z0,n0,x0,w0⟩:=hf 0 _ rfl;obtain ⟨u1,z1,n1,x1,w1⟩:=hf 1 _ rfl;obtain ⟨u2,z2,n2,x2,w2⟩:=hf 2 _ rfl;obtain ⟨u3,z3,n3,x3,w3⟩:=hf 3 _ rfl;obtain ⟨u4,z4,n4,x4,w4⟩:=hf 4 _ rfl;obtain ⟨i0,e0,_,_⟩:=DataW.trod_int Tryz.underlying3 w0;obtain ⟨i1,e1,_,_⟩:=DataW.trod_int Tryz.underlying3 w1;obtain ⟨i2,e2,_,q2⟩:=DataW.trod_int Tryz.underlying3 w2;obtain ⟨s,hs,_,hz⟩:=DataW.trod_string Tryz.underlying9 w3;obtain ⟨l,fR,jc⟩:=PU Tryz.underlying60 Tryz.underlying3 c3 w4
  injection e0 with e0 _
  injection e1 with e1 _
  injection e2 with e2 _
  injection hs with hs _
  subst hs e0 e1 e2;refine ⟨⟨i0,i1,i2,s.data.toList,l⟩,⟨⟨max_le hz,jc⟩,wf_i64 q2⟩,rfl,fun j g hg=>?_⟩
  match j,hg with
  | 0,hg=>cases hg;exact mo x0 (vN _)
  | 1,hg=>cases hg;exact mo x1 (vN _)
  | 2,hg=>cases hg;exact mo x2 (vN _)
  | 3,hg=>cases hg;rw [<-EN];exact mo x3 fun a n c e=>by cases e
  | 4,hg=>cases hg;rw [Qw x4 fR,Pp]
  | j+5,hg=>simp [aw] at hg) h3
 have r0:=NI g1 β;rw [GQ] at r0;refine ⟨⟨gs,sR,fs,ns⟩,?_,⟨⟨g2,g3⟩,⟨a2,fun x hx=>(a3 x hx).1⟩,⟨kc,pR⟩,⟨k2,fun x hx=>(k3 x hx).1⟩⟩,⟨fun x hx=>(a3 x hx).2,fun x hx=>(k3 x hx).2⟩⟩;have hc:bh (KW W) β [v0,v1,v2,v3] (ar ⟨gs,sR,fs,ns⟩):=.cons r0 (.cons a1 (.cons cX (.cons k1 .nil)));exact .agg [v0,v1,v2,v3] _ hc.1 hc.2
end
end Go.Xg
namespace Go.Xg
open Go.RowKit Go.Xw Go.Proofs Go.Lib
theorem NX {P:Program} {W:World} {name:String} {k:IntKind} {zs:List Int} {g:Nat} {t e:TypeId} {n:Nat}
  (hg:P.globalNamed name=some g) (hty:(P.globals[g]?).map (·.type)=some t) (ht:P.underlying t=some (.array n e)) (he:P.underlying e=some (.int k)) (Mw:P.cellsOf e=1) (hct:P.cellsOf t=n)
  (h:VarReads P W name (tabData k zs)):TabIs P W name k zs:=by
 obtain ⟨g',t',cs,fuel,p,mu,FU,Zm,hd⟩:=h;obtain rfl:=Option.some.inj (hg.symm.trans mu);obtain rfl:=Option.some.inj (hty.symm.trans FU);unfold TabIs;rw [Zm,<-cells_of_tab ht he Mw hct hd]
theorem Jx {P:Program} {W:World} {name:String} {k:IntKind} {zs:List Int} {g n:Nat} (hg:P.globalNamed name=some g) (hn:zs.length=n) (h:TabIs P W name k zs):tO W g n:=by
 unfold TabIs World.var? at h;rw [hg] at h;simp only [Option.bind_some] at h
 cases hb:W.heap[g]? with
 | none=>rw [hb] at h;cases h
 | some o =>
  rw [hb] at h
  cases o with
  | cells cs E z =>
   simp only [Option.some.injEq] at h;exact ⟨cs,E,z,hb,by rw [h];simpa using hn⟩
  | _=>cases h
theorem Lw {P:Program} {W:World} {name:String} {k:IntKind} {zs:List Int} {g:Nat} (hg:P.globalNamed name=some g) (h:TabIs P W name k zs) {o:Nat} {z:Int} (ho:zs[o]?=some z):KW W g o=some (.v (.int k z)):=by
 have ak:=(List.getElem?_eq_some_iff.1 ho).1;have hc:=h.cell hg o ak;rw [List.getD_eq_getElem?_getD,ho,fG] at hc
 exact mo hc fun a n c e=>by cases e
theorem S5 {W:World} (hp:VarReads Tryz.prog W "internal/strconv.uint64pow10" (tabData .u64 wq)) (hs:VarReads Tryz.prog W "strings.asciiSpace" (tabData .u8 wz)) (hW:W.ShapedOpen Tryz.prog):jl (KW W) (fun _=>.no) W:=by
 have gp:Tryz.prog.globalNamed "internal/strconv.uint64pow10" = some 3:=by kernel_rfl
 have gs:Tryz.prog.globalNamed "strings.asciiSpace" = some 1:=by kernel_rfl
 have tp:=NX gp (t:=275) (by kernel_rfl) Tryz.underlying275 (k:=.u64) (by kernel_rfl) (by kernel_rfl) (by kernel_rfl) hp;have ts:=NX gs (t:=253) (by kernel_rfl) Tryz.underlying253 (k:=.u8) (by kernel_rfl) (by kernel_rfl) (by kernel_rfl) hs;obtain ⟨m,hm⟩:=cell_of_shapedOpen_int (g:=0) (zero:=#[.int .i64 0]) (t:=3) hW (of_decide_eq_true (by kernel_rfl)) (by kernel_rfl) rfl (by kernel_rfl) (by kernel_rfl) Tryz.underlying3;rw [fG] at hm;refine ⟨⟨m,fun b o g h=>?_⟩,Jx gp aR tp,Jx gs aR ts,fun i b h=>by cases h⟩;unfold xT at h;split at h
 ·rename_i hb;subst hb;split at h
  ·cases h;exact mo hm fun a n c e=>by cases e
  ·cases h
 ·split at h
  ·rename_i hb;subst hb
   cases ho:wq[o]? with
   | none=>rw [ho] at h;cases h
   | some z=>rw [ho] at h;cases h;exact Lw gp tp ho
  ·split at h
   ·rename_i hb;subst hb
    cases ho:wz[o]? with
    | none=>rw [ho] at h;cases h
    | some z=>rw [ho] at h;cases h;exact Lw gs ts ho
   ·cases h
theorem GF.calls {P:Program} {f:FuncId} {gs:List GV} {g:GV} (h:GF P f gs [] g []) {W:World} {vs:List Value} (hv:bh (KW W) (fun _=>.no) vs gs) (hT:jl (KW W) (fun _=>.no) W) :
  pn P f vs W fun v w'=>Below W.heap.size W w'/\∃ K β,Rel K β v g:=by
 have hI:Inv ⟨W,ic,KW W,fun _=>.no,0⟩ (KW W) (fun _=>.no) [] W :=
  ⟨Ext.refl W,cU.refl _,dp.refl _,fun _ _=>rfl,VT W,fun i x h=>by simp at h,fun _ _=>rfl,fun i j b h=>(by cases h),fun i b h=>(by cases h),fun b o g h=>.inl h,hT⟩
 refine (h ⟨W,ic,KW W,fun _=>.no,0⟩ (KW W) (fun _=>.no) W vs rfl hI hv).mono ?_;rintro v w' ⟨K',bN,x,aO,L,I,rfl,rfl⟩;exact ⟨L.ext.below,K',bN,I⟩
end Go.Xg
namespace Go.Xg
open Go.RowKit Go.Xw
theorem xj (n:Int):bits .and .i64 n 4294967295=n % 4294967296:=by
 have h:(BitVec.ofInt 64 4294967295).toNat=2 ^ 32 - 1:=by decide
 have key:(BitVec.ofInt 64 n &&& BitVec.ofInt 64 4294967295).toNat=(n % ((2 ^ 64:Nat):Int)).toNat % 2 ^ 32:=by
  rw [BitVec.toNat_and,BitVec.toNat_ofInt,h,Nat.and_two_pow_sub_one_eq_mod]
 show IntKind.i64.wrap ((BitVec.ofInt 64 n &&& BitVec.ofInt 64 4294967295).toNat:Nat)=n % 4294967296;rw [key,IntKind.wrap_i64];omega
section
variable {P:Program} {fr:List GV} {F:List Ob}
theorem YG.xj {x y:Operand} {t t':TypeId} {a:Int} (hx:ba fr x=.v (ii a)) (hy:ba fr y=.v (ii 4294967295)):YG P (.binOp .and t x y t') fr F (.v (ii (a % 4294967296))) :=
 YG.v2 hx hy fun l w h k d ty pos af=>by
  simp [execOp,eqGuard,h,k,binOp,intBits_and,Go.Xg.xj]
end
end Go.Xg
namespace Go.Xw
open Go.RowKit
class Dr (P:Program) (t:TypeId) (e:outParam TypeId):Prop where
 is:P.underlying t=some (.slice e)/\∃ i,P.info? e=some i/\i.zero=some (.int .u8 0)/\i.size=1/\i.bytes=1
def QA (P:Program) (t e:TypeId):Bool :=
 (match P.underlying t with | some (.slice e')=>e'==e | _=>false)&&(match P.info? e with | some i=>(match i.zero with | some (.int .u8 0)=>true | _=>false)&&i.size==1&&i.bytes==1 | none=>false)
theorem Dr.mk' {P:Program} {t e:TypeId} (h:QA P t e=true):Dr P t e:=by
 unfold QA at h;rw [aH] at h;obtain ⟨L,I⟩:=h;refine ⟨?_,?_⟩
 ·split at L
  ·rename_i e' hu;rw [hu];simp at L;rw [L]
  ·cases L
 ·split at I
  ·rename_i i hi;simp only [aH,beq_iff_eq] at I;obtain ⟨⟨h4,h5⟩,h6⟩:=I;split at h4
   ·rename_i hz;exact ⟨i,hi,hz,h5,h6⟩
   ·cases h4
  ·cases I
section
variable {P:Program} {Q:mq} {l:List Value} {w:World} {ops:Array Oper} {rest:List Oper} {d:Option Tmp} {ty:TypeId} {pos:String} {af:Array Edge}
def ly (s:ae):List Value:=s.map fun c=>.int .u8 (c.toNat:Int)
theorem WL.CA {s x:Operand} {t u e:Nat} [hT:Dr P t e] [hU:qo P u] {base n:Nat} {xs:List Value} {v:Value} {str:ae} (hs:ev l s=v) (im:iQ w base e 1 v n xs) (hx:ev l x=sv str)
  (yr:n+str.length<=140737488355328) (Bx:base<=w.heap.size)
  (h:∀ v' w',iQ w' base e 1 v' (n+str.length) (xs++ly str)->Ext (fun b=>v.ownBlock=some b) w w'->(∀ b,v'.ownBlock=some b->v.ownBlock=some b\/w.heap.size<=b)->(Ext ic w w'\/v'.ownBlock=v.ownBlock)->WL P ops Q rest (put l d v') w') :
  WL P ops Q (⟨d,.call ⟨.builtin .append,#[s,x],#[t,u]⟩,ty,pos,af,none⟩::rest) l w:=by
 obtain ⟨hu,i,hi,hz,dE,yo⟩:=hT.is;have gh:=hU.und
 have s9:(⟨str.toArray⟩:ByteArray).size=str.length:=by simp [ByteArray.size]
 have fT:Lib.strCells ⟨str.toArray⟩=ly str:=by simp [Lib.strCells,ly]
 obtain ⟨v',w',hr,I,h3,h4⟩:=Lib.run_append_own_string (P:=P) w base t u ty e i hu gh hi hz dE yo v n xs im ⟨str.toArray⟩ (by rw [s9];simp only [maxLen];omega) (by rw [s9];omega) Bx;rw [s9,fT] at I;rw [s9] at h4;have iw:Ext (fun b=>v.ownBlock=some b) w w':=⟨h3.os,h3.tape,h3.output,h3.size,fun j hj hn=>h3.block j hj fun he=>hn he.symm⟩;have nQ:(Builtin.append_ #[t,u] ty #[v,sv str]).run P w=.ok v' w':=hr;refine WL.val (v:=v') (w':=w') (by simp [execOp,resolve,invoke,builtin,hs,hx,nQ]) (h v' w' I iw ?_ ?_)
 ·intro b' bC
  rcases im.2 with ⟨rfl,rfl⟩ | ⟨g,cap,cur,rfl,pA,hg,rf,zX,fT,BL⟩
  ·by_cases hm:str.length=0
   ·have:=h4.2 ⟨rfl,hm⟩;subst this;cases bC
   ·have ea:=run_append_nil_string (P:=P) w t u ty e i (.int .u8 0) hu gh hi hz ⟨str.toArray⟩ (by omega) (by rw [s9];omega) (by rw [yo,s9];omega);rw [hr] at ea;cases ea;simp only [Value.ownBlock,Option.some.injEq] at bC;exact .inr (by omega)
  ·by_cases hroom:n+str.length<=cap
   ·have Uj:cur.size=cap:=by simpa using fT
    have ea:=Lib.run_append_room_string (P:=P) w t u ty e i hu gh hi dE g n cap cur hg ⟨str.toArray⟩ (by rw [s9];exact hroom) (by rw [s9];omega);rw [hr] at ea;cases ea;exact .inl bC
   ·have holds:∀ j u,xs[j]?=some u->w.cell? ((⟨g,0,none⟩:Addr).add j)=some u:=World.ownsRow.cells (g:=g) im rfl;have ea:=Lib.run_append_grow_string (P:=P) w t u ty e i (.int .u8 0) hu gh hi hz ⟨g,0,none⟩ n cap xs (by rw [dE];exact im.1) holds ⟨str.toArray⟩ (by rw [s9];omega) (by rw [s9];omega) (by rw [yo,s9];exact growslice_fits (by omega) (by omega));rw [hr] at ea;cases ea;simp only [Value.ownBlock,Option.some.injEq] at bC;exact .inr (by omega)
 ·rcases im.2 with ⟨rfl,rfl⟩ | ⟨g,cap,cur,rfl,pA,hg,rf,zX,fT,BL⟩
  ·exact .inl (iw.mono fun k _ hk=>by cases hk)
  ·by_cases hroom:n+str.length<=cap
   ·have Uj:cur.size=cap:=by simpa using fT
    have ea:=Lib.run_append_room_string (P:=P) w t u ty e i hu gh hi dE g n cap cur hg ⟨str.toArray⟩ (by rw [s9];exact hroom) (by rw [s9];omega);rw [hr] at ea;cases ea;exact .inr rfl
   ·have holds:∀ j u,xs[j]?=some u->w.cell? ((⟨g,0,none⟩:Addr).add j)=some u:=World.ownsRow.cells (g:=g) im rfl;have ea:=Lib.run_append_grow_string (P:=P) w t u ty e i (.int .u8 0) hu gh hi hz ⟨g,0,none⟩ n cap xs (by rw [dE];exact im.1) holds ⟨str.toArray⟩ (by rw [s9];omega) (by rw [s9];omega) (by rw [yo,s9];exact growslice_fits (by omega) (by omega));rw [hr] at ea;cases ea;exact .inl ⟨rfl,rfl,rfl,by simp,fun k hk _=>Below.heap_alloc _ _ _ (by simpa using hk)⟩
theorem R.ua {x:Operand} {s:TypeId} {i off:Nat} [hT:dO P s i off 1 false] {vs:List Value} {v:Value} (hx:ev l x=.agg vs.toArray) (hv:vs[off]?=some v):eS P l w (.field s x i) v:=fun d ty pos af=>by
 obtain ⟨hT⟩:=hT;unfold J9 at hT;split at hT
 ·rename_i fs hu;split at hT
  ·rename_i f hf;simp only [aH,beq_iff_eq,bne_iff_ne,ne_eq] at hT;obtain ⟨⟨⟨L,I⟩,h3⟩,h4⟩:=hT
   have hag:(isAgg f.type).run P w=.ok false w:=by
    cases hd:P.underlying f.type with
    | none=>simp [hd] at h4
    | some d =>
     rw [hd] at h4;unfold isAgg;rw [Sem.run_bind,run_underlying hd w]
     cases d <;> simp_all [zb]
   have BN:vs.toArray[f.offset]?=some v:=by rw [L];simpa using hv
   have hv2:vs[f.offset]?=some v:=by rw [L];exact hv
   simp [execOp,Instr.field,hx,run_underlying hu,hf,part,asAgg,hag,BN,hv2]
  ·cases hT
 ·cases hT
end
end Go.Xw
namespace Go.Xg
open GV (U)
open Go.RowKit Go.Xw
section
variable {P:Program} {m:Nat} {Q:du} {fr:List GV} {F:List Ob} {ops:Array Oper} {rest:List Oper} {d:Option Tmp} {op:Op} {ty:TypeId} {pos:String} {af:Array Edge}
theorem YG.ua {x:Operand} {s:TypeId} {i off:Nat} [hT:dO P s i off 1 false] {cs:List GV} {g:GV} (hx:ba fr x=.agg cs) (hg:cs[off]?=some g):YG P (.field s x i) fr F g:=fun B K β w l hI hF=>by
 have h:=hF.ev x;rw [hx] at h;generalize hv:ev l x=v at h
 cases h with
 | agg vs _ hl h =>
  have hi:off < vs.length:=by rw [hl];exact (bp hg).1
  exact ⟨vs[off],R.ua hv (by simp [hi]),h off _ g (by simp [hi]) hg⟩
abbrev cP (s:ae):List (List GV):=s.map fun c=>[.v (.int .u8 (c.toNat:Int))]
theorem GL.CA {s x:Operand} {t u e:Nat} [hT:Dr P t e] [hU:qo P u] {i n fz:Nat} {rows:List (List GV)} {str:ae} (hx:ba fr x=.v (sv str)) (hs:ba fr s=.vec i n) (bG:F[i]?=some (.vec e 1 fz rows)) (hn:rows.length=n) (cr:str.isEmpty=false)
  (hb:n+str.length<=140737488355328)
  (h:GL P m ops Q rest (bx fr d (.vec i (n+str.length))) (oset F i (.vec e 1 fz (rows++cP str)))) :
  GL P m ops Q (⟨d,.call ⟨.builtin .append,#[s,x],#[t,u]⟩,ty,pos,af,none⟩::rest) fr F:=fun B K β w l hm hI hF=>by
 subst hn
 have cr:str≠[]:=by intro h0;rw [h0] at cr;cases cr
 obtain ⟨h0,xs,o1,o2,o3,o4,o5,o6⟩:=hI.ob i _ bG;have uh:=hF.ev s;rw [hs] at uh
 have rl:ev l s=h0:=by
  generalize hv:ev l s=v at uh
  cases uh with
  | vec _ _ a c hh =>
   obtain ⟨h',m',e1,e2,e3⟩:=hh;rw [o1] at e1;cases e1;exact e3 rfl
 have iq:(cP str).flatten=str.map fun c=>GV.v (.int .u8 (c.toNat:Int)):=by
  unfold cP;clear hx cr hb h;generalize str=s
  induction s with
  | nil=>rfl
  | cons c r ih=>simp only [List.map_cons,flatten_cons,ih];rfl
 have hlen:(cP str).length=str.length:=by simp [cP]
 refine WL.CA (base:=0) (v:=h0) (n:=rows.length) (xs:=xs) (str:=str) rl o2 (hF.jI hx) hb (aM _) ?_;intro v' w' how iw uW vU
 obtain ⟨K',hK,rp,bs⟩:=hI.grow bG o1 ⟨o2,o3⟩ (news:=cP str) (ns:=ly str) (by rw [hlen];exact how) iw uW (by rw [iq];exact (by
   have:(str.map fun c=>GV.v (.int .u8 (c.toNat:Int)))=lQ (ly str):=by simp [lQ,ly]
   rw [this];exact bh.self)) (fun r hr=>by
   simp only [cP,qX] at hr;obtain ⟨c,_,rfl⟩:=hr
   exact ⟨rfl,fun g hg=>by rw [List.mem_singleton] at hg;subst hg;rfl⟩) (by intro h0;exact cr (List.map_eq_nil_iff.1 h0)) (fun b bC o v ho hv=>by
  rcases vU with h7 | h7
  ·exact h7.c hv (fun h=>h)
  ·have gT:o < xs.length:=by rw [o2.1];exact xE ho (qW 1 o6)
   obtain ⟨b2,c2,qc,_,_,kG⟩:=o2.cells.2 (by intro h0;rw [h0] at gT;simp at gT)
   have fg:b2=b:=by rw [qc] at bC;cases bC;rfl
   subst fg;have DW:=kG o xs[o] (by simp [gT]);rw [fG,hv] at DW;cases DW;obtain ⟨b3,c3,MA,_,_,Mv⟩:=how.cells.2 (by intro h0;have:xs=[]:=(List.append_eq_nil_iff.1 h0).1;rw [this] at gT;simp at gT)
   have ym:b3=b2:=by rw [MA,bC] at h7;cases h7;rfl
   subst ym
   rw [<-fG];exact Mv o _ (by rw [ff gT];simp [gT]))
 rw [<-bf] at bs;refine h B K' _ w' _ hm bs ((hF.mono hK rp).put d ?_);obtain ⟨a,c,rfl⟩:=how.shape;exact .vec i _ a c ⟨_,_,bH,by simp [hlen],fun _=>by simp [hlen]⟩
end
theorem GF.U3 {P:Program} {f:FuncId} {vs:List Value} {v:Value} (h:∀ K β w,jl K β w->kC K w->pn P f vs w fun x w'=>x=v/\Ext ic w w'):GF P f (vs.map GV.v) [] (.v v) []:=fun B K β w us hm hI hF=>by
 have hv:us=vs:=by
  obtain ⟨L,I⟩:=hF;apply ext_getElem
  ·simpa using L
  ·intro i h3 h4;have:=I i us[i] (.v vs[i]) (by simp [h3]) (by simp [h4]);exact Rel.fD this
 subst hv
 exact (h K β w hI.tab hI.fz).mono fun x w' ⟨L,I⟩=>⟨K,β,.v v,[],hI.same I,by rw [L];exact .v _,rfl,rfl⟩
theorem jl.cell {K:Fz} {β:Bt} {w:World} (h:jl K β w) (hf:kC K w) {b o:Nat} {x:Value} (hk:∀ m,xT m b o=some (.v x)):gq w.heap b o=some x:=by
 obtain ⟨m,h⟩:=h.le;obtain ⟨_,v,hv,hr⟩:=hf b o _ (h b o _ (hk m));rw [hv,Rel.fD hr]
theorem jl.maxLen {K:Fz} {β:Bt} {w:World} (h:jl K β w) (hf:kC K w):∃ m,w.cell? ⟨0,0,none⟩=some (.int .i64 m):=by
 obtain ⟨m,h⟩:=h.le
 have hk:xT m 0 0=some (.v (.int .i64 m)):=by simp [xT]
 obtain ⟨_,v,hv,hr⟩:=hf _ _ _ (h _ _ _ hk);exact ⟨m,by rw [fG,hv,Rel.fD hr]⟩
theorem tO.all {K:Fz} {β:Bt} {w:World} (h:jl K β w) (hf:kC K w) {b n:Nat} {zs:List Value} (hb:tO w b n) (hn:zs.length=n) (hk:∀ m o x,zs[o]?=some x->xT m b o=some (.v x)):∃ E z,w.heap[b]?=some (.cells zs.toArray E z):=by
 obtain ⟨cs,E,z,L,I⟩:=hb;refine ⟨E,z,?_⟩
 have:cs=zs.toArray:=by
  apply Array.ext
  ·simp [I,hn]
  ·intro i hi pB
   have hx:zs[i]?=some zs.toArray[i]:=by simp
   have h3:=h.cell hf (b:=b) (o:=i) (fun m=>hk m i _ hx)
   have h4:gq w.heap b i=cs[i]?:=by rw [<-fG,cell_of_row w b i cs E z L]
   rw [h4] at h3;simpa [hi] using h3
 rw [L,this]
theorem GF.Zu {P:Program} {f:FuncId} {vs us:List Value} {E:TypeId} (h:∀ K β w,jl K β w->kC K w->pn P f vs w fun x w'=>x=.slice (some ⟨w.heap.size,0,none⟩) us.length us.length/\w'=w.alloc (.cells us.toArray E)):GF P f (vs.map GV.v) [] (.sl 1 (us.map fun u=>[.v u])) []:=fun B K β w ws hm hI hF=>by
 have hv:ws=vs:=by
  obtain ⟨L,I⟩:=hF;apply ext_getElem
  ·simpa using L
  ·intro i h3 h4;have:=I i ws[i] (.v vs[i]) (by simp [h3]) (by simp [h4]);exact Rel.fD this
 subst hv
 refine (h K β w hI.tab hI.fz).mono fun x w' ⟨L,I⟩=>?_
 subst L;subst I;have hn:=uM.of w (.cells us.toArray E);obtain ⟨hle,bs⟩:=hI.sk hn (cs:=us.map .v) bh.self (fun g hg=>by obtain ⟨u,_,rfl⟩:=qX.1 hg;rfl);refine ⟨_,β,.sl 1 (us.map fun u=>[.v u]),[],bs,?_,rfl,rfl⟩;have:=Rel.sl (K:=lf K w.heap.size (us.map .v)) (β:=β) w.heap.size 0 us.length 1 (us.map fun u=>[.v u]) (fun i r hr=>?_) (by simp)
 ·rw [bP] at this;exact this
 ·rw [aV] at hr
  cases hu:us[i]? with
  | none=>rw [hu] at hr;cases hr
  | some u =>
   rw [hu] at hr;cases hr;refine ⟨rfl,fun j g hg=>?_⟩
   cases j with
   | zero=>cases hg;rw [cL,Nat.mul_one,Nat.add_zero];exact tA (by rw [aV,hu];rfl)
   | succ j=>simp at hg
section
variable {B:Bs} {K:Fz} {β:Bt} {F:List Ob} {w:World}
theorem Inv.swap {i:Nat} {y:Ob} (h:Inv B K β F w) (ho:la K β w i y):Inv B K β (oset F i y) w:=by
 refine ⟨h.ext,h.kle,h.ble,h.loc,h.fz,fun j x hj=>?_,fun j hj=>h.out j (by simpa [bf] using hj),h.dis,h.own,h.kn,h.tab⟩;rw [bf,dB] at hj;split at hj
 ·rename_i gA;split at hj
  ·cases hj;subst gA;exact ho
  ·cases hj
 ·exact h.ob j x hj
theorem Inv.Ck {i E k:Nat} {rows:List (List GV)} {x:Value} (h:Inv B K β F w) (hi:F[i]?=some (.vech E k rows x)):Inv B K β (oset F i (.vec E k 0 rows)) w:=by
 obtain ⟨xs,L,I,h3,h4,h5⟩:=h.ob i _ hi;exact h.swap ⟨x,xs,L,I,h3,h4,fun b hb=>⟨fun o _=>h5 b hb o,fun o g ho=>by omega⟩,aM _⟩
theorem Inv.Kj {i E k:Nat} {rows:List (List GV)} (h:Inv B K β F w) (hi:F[i]?=some (.vec E k 0 rows)):∃ a c,β i=.gr (.slice a rows.length c) rows.length/\Inv B K β (oset F i (.vech E k rows (.slice a rows.length c))) w:=by
 obtain ⟨x,xs,L,I,h3,h4,h5,h6⟩:=h.ob i _ hi;obtain ⟨a,c,rfl⟩:=I.shape;exact ⟨a,c,L,h.swap ⟨xs,L,I,h3,h4,fun b hb o=>(h5 b hb).1 o G⟩⟩
theorem pW {i:Nat} {x y:Ob} (h:F[i]?=some x):(oset F i y)[i]?=some y:=by
 have:=(bp h).1;rw [bf,dB];simp [this]
theorem ox {i:Nat} {x y:Ob}:oset (oset F i x) i y=oset F i y:=by rw [bf,bf,bf,List.set_set]
theorem Inv.gr {i E k:Nat} {rows:List (List GV)} {x:Value} (h:Inv B K β F w) (hi:F[i]?=some (.vech E k rows x)):β i=.gr x rows.length:=by
 obtain ⟨xs,L,_⟩:=h.ob i _ hi;exact L
theorem Inv.tu {i E k:Nat} {rows:List (List GV)} {x:Value} (h:Inv B K β F w) (hi:F[i]?=some (.vech E k rows x)):∃ K',cU K K'/\Rel K' β x (.sl k rows)/\Inv B K' β (oset F i (.vec E k rows.length rows)) w:=by
 obtain ⟨xs,L,I,h3,h4,h5⟩:=h.ob i _ hi;obtain ⟨K',hK,DP,bs⟩:=(h.Ck hi).jv (pW hi);rw [<-bf,ox] at bs;refine ⟨K',hK,?_,bs⟩
 rcases I.2 with ⟨e5,e6⟩ | ⟨g,cap,cu,e5,_,_,rf,_⟩
 ·have:rows=[]:=gJ e6;subst this;subst e5;exact .sl0 _ _ _
 ·subst e5;refine .sl g 0 cap k rows (fun j r hr=>⟨(h4 r (bF hr)).1,fun q g' mu=>?_⟩) rf;rw [cL];exact DP _ g L rfl _ g' (uy h4 hr mu)
end
section
variable {P:Program} {m:Nat} {Q:du} {fr:List GV} {F:List Ob} {ops:Array Oper} {rest:List Oper} {d:Option Tmp} {op:Op} {ty:TypeId} {pos:String} {af:Array Edge}
theorem Wk.jq (E k:Nat):Wk m fr F fr (F++[.vech E k [] (.slice none 0 0)]):=fun B K β w l hm hI hF=>by
 have cV:β F.length=.no:=hI.out _ (aD _);have bs:=hI.EW (w':=w) (E:=E) (k:=k) (x:=.slice none 0 0) (xs:=[]) (rows:=[]) (Ext.refl w) (iQ.nil w 0 E k) (fun b hb=>by cases hb) bh.nil (fun r hr=>by cases hr);have hle:dp β (fY β F.length (.gr (.slice none 0 0) ([]:List (List GV)).length)):=jr (by rw [cV];trivial);refine ⟨K,_,?_,hF.mono (cU.refl K) hle⟩;have hb:fY β F.length (.gr (.slice none 0 0) ([]:List (List GV)).length) F.length=.gr (.slice none 0 0) ([]:List (List GV)).length:=bH;have:=bs.swap (i:=F.length) (y:=.vech E k [] (.slice none 0 0)) ⟨[],hb,iQ.nil w 0 E k,bh.nil,(fun r hr=>by cases hr),(fun b hb=>by cases hb)⟩;rw [bf] at this;simpa using this
theorem Wk.oU {t i E k:Nat} {rows:List (List GV)} {x:Value} (ht:cB fr t=.v x) (fi:jj fr t=true) (bG:F[i]?=some (.vech E k rows x)):Wk m fr F (bo fr t (.sl k rows)) (oset F i (.vec E k rows.length rows)):=fun B K β w l hm hI hF=>by
 obtain ⟨K',hK,hr,bs⟩:=hI.tu bG;refine ⟨K',β,bs,?_⟩;have hv:nth l t=x:=Rel.fD (by rw [<-ht];exact hF.nth t);have:=(hF.mono hK (dp.refl β)).fC t hr;rw [<-hv,G7 (nE hF fi)] at this;exact this
theorem bh.bo {K:Fz} {β:Bt} {x:Value} {g:GV} (hr:Rel K β x g):∀ {vs:List Value} {cs:List GV} {o:Nat},bh K β vs cs->cs[o]?=some (.v x)->bh K β vs (bo cs o g):=by
 intro vs
 induction vs with
 | nil=>intro cs o h ho;have:cs=[]:=gJ h.1.symm;subst this;simp at ho
 | cons v vs ih =>
  intro cs o h ho
  cases cs with
  | nil=>simp at ho
  | cons c cs =>
   obtain ⟨a1,a2⟩:=h.pI
   cases o with
   | zero=>cases ho;have hv:=Rel.fD a1;subst hv;exact .cons hr a2
   | succ o=>exact .cons a1 (ih a2 (by simpa using ho))
theorem Wk.vh {i o j E k:Nat} {T:TypeId} {cs:List GV} {rows:List (List GV)} {x:Value} (hi:F[i]?=some (.box T cs)) (ho:cs[o]?=some (.v x)) (gA:Nat.beq i j=false) (hj:F[j]?=some (.vech E k rows x)):Wk m fr F fr (oset (oset F j (.vec E k rows.length rows)) i (.box T (bo cs o (.sl k rows)))):=fun B K β w l hm hI hF=>by
 have cr:i≠j:=by intro e;subst e;simp at gA
 obtain ⟨K',hK,hr,bs⟩:=hI.tu hj;obtain ⟨b,vs,L,I,h3,h4⟩:=bs.ob i (.box T cs) (by rw [bf,dB,M (fun e=>cr e.symm)];exact hi);exact ⟨K',β,bs.swap ⟨b,vs,L,I,bh.bo hr h3 ho,h4⟩,hF.mono hK (dp.refl β)⟩
def ek:List (List GV)->Nat->Nat->GV->List (List GV)
 | [],_,_,_=>[]
 | r::rs,0,o,g=>bo r o g::rs
 | r::rs,n+1,o,g=>r::ek rs n o g
theorem Fo:∀ (l:List GV) (o:Nat) (g:GV),(bo l o g).length=l.length
 | [],_,_=>rfl
 | _::l,0,_=>rfl
 | _::l,o+1,g=>by simp [bo,Fo l o g]
theorem AG:∀ (a b:List GV) (o:Nat) (g:GV),bo (a++b) (a.length+o) g=a++bo b o g
 | [],b,o,g=>by simp
 | x::a,b,o,g=>by
  rw [cons_append,length_cons,show a.length+1+o=(a.length+o)+1 by omega,bo,AG a b o g];rfl
theorem DF:∀ (a b:List GV) (o:Nat) (g:GV),o < a.length->bo (a++b) o g=bo a o g++b
 | [],b,o,g,h=>by simp at h
 | x::a,b,0,g,h=>rfl
 | x::a,b,o+1,g,h=>by simp [bo,DF a b o g (by simpa using h)]
theorem Pb {l:List GV} {o:Nat} {g x:GV} (h:x∈bo l o g):x∈l\/x=g:=by
 induction l generalizing o with
 | nil=>cases h
 | cons y l ih =>
  cases o with
  | zero =>
   simp only [bo,List.mem_cons] at h;rcases h with h | h
   ·exact .inr h
   ·exact .inl (di _ h)
  | succ o =>
   simp only [bo,List.mem_cons] at h;rcases h with h | h
   ·exact .inl (by rw [h];exact mem_cons_self)
   ·exact (ih h).imp (di _) id
theorem iD:∀ (rows:List (List GV)) (i o:Nat) (g:GV),(ek rows i o g).length=rows.length
 | [],_,_,_=>rfl
 | r::rs,0,_,_=>rfl
 | r::rs,n+1,o,g=>by simp [ek,iD rs n o g]
theorem vg {k:Nat} {o:Nat} {g:GV} (ho:o < k):∀ {rows:List (List GV)} {i:Nat},gX k rows->i < rows.length->(ek rows i o g).flatten=bo rows.flatten (i * k+o) g
 | [],_,_,h=>by simp at h
 | r::rs,0,hk,_=>by
  have:=(hk r (mem_cons_self)).1;rw [ek,flatten_cons,flatten_cons,Nat.zero_mul,cL,DF _ _ _ _ G]
 | r::rs,n+1,hk,h=>by
  have:=(hk r (mem_cons_self)).1;rw [ek,flatten_cons,flatten_cons,vg ho (fun r hr=>hk r (di _ hr)) (by simpa using h),show (n+1) * k+o=r.length+(n * k+o) by rw [Nat.succ_mul];omega,AG]
theorem zB {k:Nat} {o:Nat} {g:GV} (hg:g.pc=true):∀ {rows:List (List GV)} {i:Nat},gX k rows->gX k (ek rows i o g)
 | [],_,_=>fun r hr=>by cases hr
 | r::rs,0,hk=>fun r' hr=>by
  simp only [ek,List.mem_cons] at hr
  rcases hr with rfl | hr
  ·exact ⟨by rw [Fo];exact (hk r mem_cons_self).1,fun x hx=>by
    rcases Pb hx with h | h
    ·exact (hk r mem_cons_self).2 x h
    ·rw [h];exact hg⟩
  ·exact hk r' (di _ hr)
 | r::rs,n+1,hk=>fun r' hr=>by
  simp only [ek,List.mem_cons] at hr
  rcases hr with rfl | hr
  ·exact hk _ mem_cons_self
  ·exact zB hg (fun r hr=>hk r (di _ hr)) r' hr
theorem xw {a b:List (List GV)} {r:List GV} {o:Nat} {g:GV}:ek (a++r::b) a.length o g=a++bo r o g::b:=by
 induction a with
 | nil=>rfl
 | cons x a ih=>rw [cons_append,length_cons,ek,ih];rfl
theorem Wk.EL {i idx o j E k T k':Nat} {rows ks:List (List GV)} {x h:Value} {r:List GV} (hi:F[i]?=some (.vech T k rows h)) (hr:rows[idx]?=some r) (ho:r[o]?=some (.v x)) (gA:Nat.beq i j=false) (hj:F[j]?=some (.vech E k' ks x)) :
  Wk m fr F fr (oset (oset F j (.vec E k' ks.length ks)) i (.vech T k (ek rows idx o (.sl k' ks)) h)):=fun B K β w l hm hI hF=>by
 have cr:i≠j:=by intro e;subst e;simp at gA
 obtain ⟨K',hK,fv,bs⟩:=hI.tu hj;obtain ⟨xs,L,I,h3,h4,h5⟩:=bs.ob i (.vech T k rows h) (by rw [bf,dB,M (fun e=>cr e.symm)];exact hi);have ak:=(bp hr).1
 have MK:o < k:=by rw [<-(h4 r (bF hr)).1];exact (bp ho).1
 exact ⟨K',β,bs.swap ⟨xs,by rw [iD];exact L,by rw [iD];exact I,by rw [vg MK h4 ak];exact bh.bo fv h3 (uy h4 hr ho),zB rfl h4,h5⟩,hF.mono hK (dp.refl β)⟩
theorem YG.eB {x y:Operand} {t e:TypeId} {k:Nat} [hT:nX P t e k] (i:Nat) {v:Value} {kk:IntKind} {j E:Nat} {rows:List (List GV)} (hx:ba fr x=.v v) (hy:ba fr y=.v (.int kk j)) (bG:F[i]?=some (.vech E k rows v)) (hj:j < rows.length):YG P (.indexAddr t x y) fr F (.vp i rows.length k j 0):=fun B K β w l hI hF=>by
 have hv:=hF.jI hx;obtain ⟨xs,L,I,h3,h4,h5⟩:=hI.ob i _ bG
 rcases I.2 with ⟨h8,h9⟩ | ⟨g,cap,cur,h8,_,hg,_⟩
 ·omega
 ·subst h8;exact ⟨_,R.yH hv (hF.jI hy) hj,.vp i _ k j 0 _ ⟨_,_,L,aD _,fun _=>⟨g,rfl,by simp⟩⟩⟩
theorem YG.TE {x:Operand} {s:TypeId} {f off k:Nat} {agg:Bool} [hT:dO P s f off k agg] {i n k' idx o E:Nat} {rows:List (List GV)} {v:Value} (hx:ba fr x=.vp i n k' idx o) (bG:F[i]?=some (.vech E k' rows v)) (hn:rows.length=n):YG P (.fieldAddr s x f) fr F (.vp i n k' idx (o+off)):=fun B K β w l hI hF=>by
 have h:=hF.ev x;rw [hx] at h;generalize hv:ev l x=u at h
 cases h with
 | vp _ _ _ _ _ _ h =>
  obtain ⟨h0,m,L,I,h3⟩:=h;rw [hI.gr bG] at L;cases L;obtain ⟨b,hb,rfl⟩:=h3 hn;exact ⟨_,R.O3 hv,.vp i n k' idx _ _ ⟨_,_,hI.gr bG,I,fun _=>⟨b,hb,by rw [fP]⟩⟩⟩
theorem YG.XU {x:Operand} {t:TypeId} [hT:Ty P t false 1] {i n k idx o E:Nat} {rows:List (List GV)} {v:Value} {r:List GV} {g:GV} (hx:ba fr x=.vp i n k idx o) (bG:F[i]?=some (.vech E k rows v)) (hn:rows.length=n) (hr:rows[idx]?=some r) (hg:r[o]?=some g):YG P (.load t x) fr F g:=fun B K β w l hI hF=>by
 have h:=hF.ev x;rw [hx] at h;generalize hv:ev l x=u at h
 cases h with
 | vp _ _ _ _ _ _ h =>
  obtain ⟨h0,m,L,I,h3⟩:=h;obtain ⟨xs,h4,h5,h6,h7,_⟩:=hI.ob i _ bG;rw [L] at h4;cases h4;obtain ⟨b,hb,rfl⟩:=h3 hn;obtain ⟨u,hu,fv⟩:=h6.at (uy h7 hr hg);obtain ⟨b2,c,he,_,_,hc⟩:=h5.cells.2 (by intro h0;rw [h0] at hu;simp at hu);subst he;cases hb;exact ⟨u,R.ld hv (by rw [<-fG];exact hc _ _ hu),fv⟩
theorem Bb {v:Value}:∀ (l:List Value) (n o:Nat),o < n->(fC l o v).take n=fC (l.take n) o v
 | [],n,o,h=>by simp [fC]
 | x::l,0,o,h=>by omega
 | x::l,n+1,0,h=>by simp [fC]
 | x::l,n+1,o+1,h=>by simp [fC,Bb l n o G]
theorem xC {v:Value}:∀ (l:List Value) (o:Nat),(fC l o v).length=l.length
 | [],o=>rfl
 | x::l,0=>rfl
 | x::l,o+1=>by simp [fC,xC l o]
theorem GL.stH {x y:Operand} {t:TypeId} [hT:Ty P t false 1] {i n k idx o E:Nat} {rows:List (List GV)} {v:Value} {r:List GV} {g:GV} (hx:ba fr x=.vp i n k idx o) (bG:F[i]?=some (.vech E k rows v)) (hn:rows.length=n) (hr:rows[idx]?=some r) (MK:Nat.blt o r.length=true)
  (hy:mr (ba fr y)=some [g]) (L:g.one=true) (hp:g.pc=true) (h:GL P m ops Q rest (bx fr d (.v undef)) (oset F i (.vech E k (ek rows idx o g) v))):GL P m ops Q (⟨d,.store t x y,ty,pos,af,none⟩::rest) fr F:=fun B K β w l hm hI hF=>by
 have FP:=hF.ev x;rw [hx] at FP;generalize hv:ev l x=u at FP
 cases FP with
 | vp _ _ _ _ _ _ hh =>
  obtain ⟨h0,mm,e1,e2,e3⟩:=hh;obtain ⟨xs,h4,h5,h6,h7,h8⟩:=hI.ob i _ bG;rw [e1] at h4;cases h4;obtain ⟨b,hb,rfl⟩:=e3 hn;have ak:=(bp hr).1
  have Zc:o < k:=by rw [<-(h7 r (bF hr)).1];simpa using MK
  obtain ⟨us,jS,km⟩:=(hF.ev y).cells hy
  obtain ⟨u1,rfl⟩:∃ u1,us=[u1]:=by
   have:=km.1
   match us,this with
   | [u1],_=>exact ⟨u1,rfl⟩
  have XJ:Rel K β u1 g:=km.2 0 u1 g rfl rfl
  have hq:idx * k+o < rows.length * k:=by
   have:(idx+1) * k<=rows.length * k:=qW k ak;rw [Nat.succ_mul] at this;omega
  rcases h5.2 with ⟨e5,e6⟩ | ⟨g0,cap,cur,e5,J6,hg,rf,zX,dE,ji⟩
  ·omega
  ·subst e5;simp only [Value.ownBlock,Option.some.injEq] at hb;subst hb;have YR:rows.length * k<=cap * k:=qW k rf
   refine WL.st (t:=t) (k:=1) hv rfl hg (by rw [jS];rfl) G (by rw [jS];have:=(xt (XJ.one L)).2;simpa [Xw.l8] using this) fun w' hs=>?_
   rw [jS] at hs
   have fT:uA cur (idx * k+o) ([u1]:List Value)=(fC cur.toList (idx * k+o) u1).toArray:=by
    simp only [uA];rw [<-y7]
   simp only [toList_toArray,fT] at hs
   have zp:rows.flatten.length=rows.length * k:=by rw [<-h6.1];exact h5.1
   have how:iQ w' 0 E k (.slice (some ⟨g0,0,none⟩) rows.length cap) rows.length (fC xs (idx * k+o) u1) :=
    ⟨by rw [xC];exact h5.1,.inr ⟨g0,cap,_,rfl,J6,hs.blk,rf,zX,by simp [xC,dE],by rw [toList_toArray,Bb _ _ _ hq,ji]⟩⟩
   have fv:bh K β (fC xs (idx * k+o) u1) (bo rows.flatten (idx * k+o) g):=by
    have gen:∀ (vs:List Value) (cs:List GV) (q:Nat),bh K β vs cs->bh K β (fC vs q u1) (bo cs q g):=by
     intro vs
     induction vs with
     | nil=>intro cs q h;have:cs=[]:=gJ h.1.symm;subst this;exact h
     | cons v vs ih =>
      intro cs q h
      cases cs with
      | nil=>have:=h.1;simp at this
      | cons c cs =>
       obtain ⟨a1,a2⟩:=h.pI
       cases q with
       | zero=>exact .cons XJ a2
       | succ q=>exact .cons a1 (ih cs q a2)
    exact gen _ _ _ h6
   have ft:(β i).blk=some g0:=by rw [e1];rfl
   have bs:Inv B K β (oset F i (.vech E k (ek rows idx o g) (.slice (some ⟨g0,0,none⟩) rows.length cap))) w':=by
    refine ⟨hI.ext.step hs.ext (fun j hj=>?_),hI.kle,hI.ble,hI.loc,hI.fz.ext hs.ext (fun b' o' g' mu he=>?_),fun j y hj=>?_,fun j hj=>hI.out j (by simpa [bf] using hj),hI.dis,hI.own,hI.kn,hI.tab.step hs.ext (fun j hj=>⟨i,by subst hj;exact ft⟩) (cU.refl K) (fun i b2 h=>.inl ⟨i,h⟩)⟩
    ·subst hj;exact (hI.own i _ ft).symm
    ·subst he;rw [h8 _ rfl] at mu;cases mu
    ·rw [bf,dB] at hj;split at hj
     ·rename_i gA;split at hj
      ·cases hj;subst gA
       exact ⟨_,by rw [iD];exact e1,by rw [iD];exact how,by rw [vg Zc h7 ak];exact fv,zB hp h7,h8⟩
      ·cases hj
     ·rename_i gA;refine (hI.ob j y hj).ext hs.ext (fun b' bC he=>?_) (cU.refl K) (dp.refl β) rfl (fun _ _ _ h=>h);subst he;exact gA (hI.dis i j _ ft bC)
   exact h B K β w' _ hm bs (hF.put d (.v _))
theorem GL.oc {x:Operand} {ts:Tmp} {t e k gS:Nat} {z:List Value} [hT:oZ P t e k gS] [hZ:qn P t e k z] {d1 dt:Tmp} {N6:TypeId} {Gr:String} {LA:Array Edge} (i:Nat) {n:Nat} {rows:List (List GV)} {gs:List GV} {v:Value}
  (hx:mr (ba fr x)=some gs) (hk:Nat.beq gs.length k=true) (L:ml gs=true) (hp:oy gs=true) (hs:cB fr ts=.v v) (UI:Nat.beq ts d1=false) (hd:jj fr d1=true) (bG:F[i]?=some (.vech e k rows v)) (hn:rows.length=n)
  (hb:(n+1<=9223372036854775807/\(n+1) * gS<=140737488355328)/\k<=16777216)
  (h:∀ a c,GL P m ops Q rest (bx (bx fr (some d1) U) (some dt) (.v (.slice a (n+1) c))) (oset F i (.vech e k (rows++[gs]) (.slice a (n+1) c)))) :
  GL P m ops Q (⟨some d1,.buildSlice t 1 #[(0,x)],N6,Gr,LA,none⟩::⟨some dt,.call ⟨.builtin .append,#[.tmp ts,.tmp d1],#[t,t]⟩,ty,pos,af,none⟩::rest) fr F:=fun B K β w l hm hI hF=>by
 subst hn;obtain ⟨us,jS,km⟩:=(hF.ev x).cells hx;obtain ⟨xs,o1,o2,o3,o4,o5⟩:=hI.ob i _ bG;have rl:nth l ts=v:=Rel.fD (by rw [<-hs];exact hF.nth ts);have My:=nE hF hd
 have Y8:ts≠d1:=by intro e;subst e;simp at UI
 have mx:gs.length=k:=by simpa using hk
 refine WL.push (base:=0) (v:=v) (vs:=us) (val:=ev l x) (xs:=xs) (n:=rows.length) rfl (fun u=>by rw [show ev (put l (some d1) u) (.tmp ts)=nth (fC l d1 u) ts from rfl,jE Y8];exact rl) (fun u=>rL My u) jS (by rw [km.1,mx]) (km.l8 L) o2 hb.1.1 hb.1.2 hb.2 (aM _) ?_;intro u v' w' how iw uW vU;obtain ⟨K',hK,rp,bs⟩:=(hI.Ck bG).grow (fz:=0) (pW bG) o1 ⟨o2,o3⟩ (news:=[gs]) (ns:=us) how iw uW (by simpa using km) (fun r hr=>by simp at hr;subst hr;exact ⟨mx,lp hp⟩) (by simp) (fun b bC o v ho hv=>by omega);rw [<-bf,ox] at bs;obtain ⟨a,c,qw,rb⟩:=bs.Kj (pW bG);rw [ox] at rb;obtain ⟨a',c',rfl⟩:=how.shape;rw [bH] at qw;simp only [aU,length_cons,length_nil] at qw rb rp;cases qw;exact h _ _ B K' _ w' _ hm rb (((hF.mono hK rp).put (some d1) (.U u)).put (some dt) (.v _))
theorem GL.rz {s x:Operand} {t e k gS:Nat} [hT:oZ P t e k gS] (i:Nat) {n:Nat} {dt:Tmp} {v:Value} {rows news:List (List GV)} (hx:ba fr x=.sl k news) (hs:ba fr s=.v v) (bG:F[i]?=some (.vech e k rows v)) (hn:rows.length=n) (L:ig news=true) (cr:news.isEmpty=false)
  (hb:n+news.length<=9223372036854775807/\(n+news.length) * gS<=140737488355328)
  (h:∀ a c,GL P m ops Q rest (bx fr (some dt) (.v (.slice a (n+news.length) c))) (oset F i (.vech e k (rows++news) (.slice a (n+news.length) c)))) :
  GL P m ops Q (⟨some dt,.call ⟨.builtin .append,#[s,x],#[t,t]⟩,ty,pos,af,none⟩::rest) fr F:=fun B K β w l hm hI hF=>by
 subst hn
 have cr:news≠[]:=by intro h0;rw [h0] at cr;cases cr
 obtain ⟨xs,o1,o2,o3,o4,o5⟩:=hI.ob i _ bG;have rl:ev l s=v:=hF.jI hs;have uk:=hF.ev x;rw [hx] at uk;generalize su:ev l x=vx at uk
 cases uk with
 | sl0 a c k=>exact absurd rfl cr
 | sl b o c _ _ hr _ =>
  have mg:gX k news:=fun r MM=>by
   obtain ⟨j,hj⟩:=List.mem_iff_getElem?.1 MM;refine ⟨(hr j r hj).1,fun g hg=>?_⟩;obtain ⟨q,hq⟩:=List.mem_iff_getElem?.1 hg;exact (hI.fz _ _ _ ((hr j r hj).2 q g hq)).1
  have zp:∀ (rows:List (List GV)) (o:Nat),(∀ (j:Nat) r,rows[j]?=some r->r.length=k/\∀ (q:Nat) g,r[q]?=some g->K b (o+j * k+q)=some g)->∀ (q:Nat) g,rows.flatten[q]?=some g->K b (o+q)=some g:=by
   intro rows
   induction rows with
   | nil=>intro o _ q g hg;simp at hg
   | cons r rows ih =>
    intro o h q g hg;rw [flatten_cons] at hg;have hl:=(h 0 r rfl).1
    by_cases hq:q < r.length
    ·rw [ff hq] at hg;have:=(h 0 r rfl).2 q g hg;simpa using this
    ·rw [eE G,hl] at hg
     have:=ih (o+k) (fun j r' hj=>by
      have:=h (j+1) r' (by simpa using hj);refine ⟨this.1,fun q g hg=>?_⟩;have:=this.2 q g hg
      rw [show o+(j+1) * k+q=o+k+j * k+q by rw [Nat.succ_mul];omega] at this;exact this) (q - k) g hg
     rw [show o+k+(q - k)=o+q by omega] at this;exact this
  obtain ⟨us,jS,km⟩:=wT (K:=K) (β:=β) (H:=w.heap) (b:=b) news.flatten o (fun j g hj=>by
   obtain ⟨hp,u,hu,fv⟩:=hI.fz _ _ _ (zp news o (fun j r hj=>hr j r hj) j g hj)
   exact ⟨u,hu,fv.pc hp⟩)
  have yF:us.length=news.length * k:=by
   rw [jS.1,List.length_flatten]
   have:∀ (rows:List (List GV)),gX k rows->(rows.map List.length).sum=rows.length * k:=by
    intro rows
    induction rows with
    | nil=>intro _;simp
    | cons r rows ih =>
     intro hk;rw [List.map_cons,sum_cons,ih (fun r hr=>hk r (di _ hr)),(hk r (mem_cons_self)).1,length_cons,Nat.succ_mul];omega
   exact this news mg
  refine WL.app (base:=0) (v:=v) (n:=rows.length) (m:=news.length) (xs:=xs) (news:=us) rl o2 su yF (fun j u hj=>by rw [fG];exact km j u hj) (jS.l8 (B5 L)) hb.1 hb.2 (aM _) ?_;intro v' w' how iw uW vU;obtain ⟨K',hK,rp,bs⟩:=(hI.Ck bG).grow (fz:=0) (pW bG) o1 ⟨o2,o3⟩ (news:=news) (ns:=us) how iw uW jS mg cr (fun b bC o v ho hv=>by omega);rw [<-bf,ox] at bs;obtain ⟨a,c,qw,rb⟩:=bs.Kj (pW bG);rw [ox] at rb;obtain ⟨a',c',rfl⟩:=how.shape;rw [bH] at qw;simp only [aU] at qw rb rp;cases qw;exact h _ _ B K' _ w' _ hm rb ((hF.mono hK rp).put (some dt) (.v _))
end
theorem Ei:∀ (us vs:List Value) (o n:Nat),o+us.length<=n->(iF vs o us).take n=iF (vs.take n) o us
 | [],vs,o,n,_=>rfl
 | u::us,vs,o,n,h=>by
  rw [length_cons] at h;rw [iF,iF,Ei us _ _ _ G,Bb _ _ _ G]
theorem yi (a:List GV):∀ (gs b:List GV) (o:Nat),oO (a++b) (a.length+o) gs=a++oO b o gs
 | [],b,o=>rfl
 | g::gs,b,o=>by rw [oO,oO,AG,fP,yi a gs]
theorem Bq:∀ (gs a b:List GV),a.length=gs.length->oO (a++b) 0 gs=gs++b
 | [],[],b,_=>rfl
 | [],x::a,b,h=>by simp at h
 | g::gs,[],b,h=>by simp at h
 | g::gs,x::a,b,h=>by
  rw [oO,cons_append,bo];have:=yi [g] gs (a++b) 0;simp only [length_cons,length_nil,cons_append,List.nil_append,cL,Nat.add_zero] at this |-;rw [this,Bq gs a b (by simpa using h)]
theorem Gt {k:Nat} {gs:List GV} (hg:gs.length=k):∀ {rows:List (List GV)} {i:Nat},gX k rows->i < rows.length->oO rows.flatten (i * k) gs=(rows.set i gs).flatten
 | [],_,_,h=>by simp at h
 | r::rs,0,hk,_=>by
  rw [flatten_cons,List.set_cons_zero,flatten_cons,Nat.zero_mul,Bq gs r _ (by rw [hg];exact (hk r mem_cons_self).1)]
 | r::rs,n+1,hk,h=>by
  have hr:=(hk r mem_cons_self).1;rw [flatten_cons,List.set_cons_succ,flatten_cons,<-Gt hg (fun r hr=>hk r (di _ hr)) (by simpa using h),show (n+1) * k=r.length+n * k by rw [Nat.succ_mul];omega,yi]
theorem KX {k:Nat} {gs:List GV} (hg:gs.length=k) (hp:oy gs=true) {rows:List (List GV)} {i:Nat} (h:gX k rows):gX k (rows.set i gs):=fun r hr=>by
 rcases List.mem_or_eq_of_mem_set hr with hr | rfl
 ·exact h r hr
 ·exact ⟨hg,lp hp⟩
section
variable {P:Program} {m:Nat} {ops:Array Oper} {Q:du} {rest:List Oper} {fr:List GV} {F:List Ob} {d:Option Tmp} {ty:TypeId} {pos:String} {af:Array Edge}
theorem GL.ZB {x y:Operand} {t:TypeId} {agg:Bool} {k:Nat} [hT:Ty P t agg k] {i n idx E:Nat} {rows:List (List GV)} {v:Value} {gs:List GV} (hx:ba fr x=.vp i n k idx 0) (bG:F[i]?=some (.vech E k rows v)) (hn:rows.length=n) (ak:idx < rows.length)
  (hy:mr (ba fr y)=some gs) (hk:Nat.beq gs.length k=true) (L:ml gs=true) (hp:oy gs=true) (h:GL P m ops Q rest (bx fr d (.v undef)) (oset F i (.vech E k (rows.set idx gs) v))):GL P m ops Q (⟨d,.store t x y,ty,pos,af,none⟩::rest) fr F:=fun B K β w l hm hI hF=>by
 have hk:gs.length=k:=by simpa using hk
 have FP:=hF.ev x;rw [hx] at FP;generalize hv:ev l x=u at FP
 cases FP with
 | vp _ _ _ _ _ _ hh =>
  obtain ⟨h0,mm,e1,e2,e3⟩:=hh;obtain ⟨xs,h4,h5,h6,h7,h8⟩:=hI.ob i _ bG;rw [e1] at h4;cases h4;obtain ⟨b,hb,rfl⟩:=e3 hn;obtain ⟨us,jS,km⟩:=(hF.ev y).cells hy
  have yF:us.length=k:=by rw [km.1,hk]
  have hq:idx * k+k<=rows.length * k:=by
   have:(idx+1) * k<=rows.length * k:=qW k ak;rw [Nat.succ_mul] at this;omega
  rcases h5.2 with ⟨e5,e6⟩ | ⟨g0,cap,cur,e5,J6,hg,rf,zX,dE,ji⟩
  ·omega
  ·subst e5;simp only [Value.ownBlock,Option.some.injEq] at hb;subst hb;have YR:rows.length * k<=cap * k:=qW k rf
   refine WL.st (t:=t) (k:=k) hv rfl hg (by rw [jS];simpa using yF) (by rw [Nat.add_zero];omega) (by rw [jS];simpa using km.l8 L) fun w' hs=>?_
   rw [jS,toList_toArray,Nat.add_zero] at hs;obtain ⟨cur⟩:=cur;rw [sD] at hs;simp only [List.size_toArray,toList_toArray] at dE ji
   have how:iQ w' 0 E k (.slice (some ⟨g0,0,none⟩) rows.length cap) rows.length (iF xs (idx * k) us) :=
    ⟨by rw [A8];exact h5.1,.inr ⟨g0,cap,_,rfl,J6,hs.blk,rf,zX,by simp [A8,dE],by rw [toList_toArray,Ei _ _ _ _ G,ji]⟩⟩
   have fv:bh K β (iF xs (idx * k) us) (oO rows.flatten (idx * k) gs):=km.iF _ h6;rw [Gt hk h7 ak] at fv
   have ft:(β i).blk=some g0:=by rw [e1];rfl
   have bs:Inv B K β (oset F i (.vech E k (rows.set idx gs) (.slice (some ⟨g0,0,none⟩) rows.length cap))) w':=by
    refine ⟨hI.ext.step hs.ext (fun j hj=>?_),hI.kle,hI.ble,hI.loc,hI.fz.ext hs.ext (fun b' o' g' mu he=>?_),fun j y hj=>?_,fun j hj=>hI.out j (by simpa [bf] using hj),hI.dis,hI.own,hI.kn,hI.tab.step hs.ext (fun j hj=>⟨i,by subst hj;exact ft⟩) (cU.refl K) (fun i b2 h=>.inl ⟨i,h⟩)⟩
    ·subst hj;exact (hI.own i _ ft).symm
    ·subst he;rw [h8 _ rfl] at mu;cases mu
    ·rw [bf,dB] at hj;split at hj
     ·rename_i gA;split at hj
      ·cases hj;subst gA
       exact ⟨_,by rw [List.length_set];exact e1,by rw [List.length_set];exact how,fv,KX hk hp h7,h8⟩
      ·cases hj
     ·rename_i gA;refine (hI.ob j y hj).ext hs.ext (fun b' bC he=>?_) (cU.refl K) (dp.refl β) rfl (fun _ _ _ h=>h);subst he;exact gA (hI.dis i j _ ft bC)
   exact h B K β w' _ hm bs (hF.put d (.v _))
theorem Te (n:Nat) (z:List Value):(List.replicate n (lQ z)).flatten=zs n z:=by
 induction n with
 | zero=>rfl
 | succ n ih=>rw [List.replicate_succ,flatten_cons,ih,zs]
theorem GL.Af {x:Operand} {t e k gS:Nat} {z:List Value} [hT:oZ P t e k gS] [hZ:qn P t e k z] {dt:Tmp} {n:Nat} (hx:ba fr x=.v (ii (n:Nat))) (hb:n<=1099511627776/\gS * n<=281474976710656)
  (h:∀ a c,GL P m ops Q rest (bx fr (some dt) (.v (.slice a n c))) (F++[.vech e k (List.replicate n (lQ z)) (.slice a n c)])) :
  GL P m ops Q (⟨some dt,.makeSlice t x x,ty,pos,af,none⟩::rest) fr F:=fun B K β w l hm hI hF=>by
 obtain ⟨hu,⟨i,z0,hi,hz,MU,dE,yo⟩,hk⟩:=hT.parts;have su:ev l x=ii (n:Nat):=hF.jI hx;obtain ⟨w',hr,I,h3⟩:=run_make_full (P:=P) (w:=w) 0 t e i z0 k hu hi hz dE .i64 .i64 n (by rw [yo];exact hb.2) (by simp only [maxLen];omega) (aM _)
 have hz0:z0.cells.toList=z:=by
  have h4:=hZ.zero;rw [hi] at h4;simp only [Option.bind_some,hz,Option.some.injEq] at h4;have hl:=hZ.zl
  by_cases L:k=1
  ·rw [ab L] at h4;rw [h4,hZ.one L];subst L
   match z,hl with
   | [a],_=>rfl
  ·rw [M L] at h4;rw [h4];rfl
 have Ui:(madeCells z0.cells (n * k)).toList=(List.range (n * k)).map fun j=>z.getD (j % k) undef:=by
  unfold madeCells;rw [Array.toList_map,Array.toList_range];apply List.map_congr_left;intro j _
  have ak:j % k < z0.cells.size:=by rw [MU];exact Nat.mod_lt _ hk
  rw [MU,getElem!_pos z0.cells (j % k) ak,<-hz0,List.getD_eq_getElem?_getD,Array.getElem?_toList,Array.getElem?_eq_getElem ak];rfl
 rw [Ui] at I;have fv:=Hh (K:=K) (β:=β) (n:=n) hZ.zl hZ.pos;rw [<-Te] at fv
 have eW:gX k (List.replicate n (lQ z)):=fun r hr=>by
  have:=List.eq_of_mem_replicate hr;subst this;refine ⟨by rw [<-hZ.zl];simp [lQ],fun g hg=>?_⟩;unfold lQ at hg;obtain ⟨v,_,rfl⟩:=qX.1 hg;rfl
 have iw:Ext ic w w':=⟨h3.os,h3.tape,h3.output,h3.size,fun j hj _=>h3.block j hj (by simp)⟩;have bs:=hI.EW (x:=.slice (some ⟨w.heap.size,0,none⟩) n n) (rows:=List.replicate n (lQ z)) iw (by rw [List.length_replicate];exact I) (fun b hb=>by cases hb;exact aD _) fv eW
 have YZ:(F++[Ob.vec e k 0 (List.replicate n (lQ z))])[F.length]?=some (Ob.vec e k 0 (List.replicate n (lQ z))):=by simp
 obtain ⟨a,c,qw,rb⟩:=bs.Kj YZ;rw [bH] at qw
 injection qw with yl fg
 injection yl with ym hb4 hb5
 subst ym hb5
 have hos:oset (F++[.vec e k 0 (List.replicate n (lQ z))]) F.length (.vech e k (List.replicate n (lQ z)) (.slice (some ⟨w.heap.size,0,none⟩) (List.replicate n (lQ z)).length n))=F++[.vech e k (List.replicate n (lQ z)) (.slice (some ⟨w.heap.size,0,none⟩) (List.replicate n (lQ z)).length n)]:=by
  rw [bf];simp
 rw [hos,List.length_replicate] at rb;refine WL.val (v:=.slice (some ⟨w.heap.size,0,none⟩) n n) (w':=w') (by simp [execOp,su,hr]) ?_;exact h _ _ B K _ w' _ hm rb ((hF.mono (cU.refl K) (jr (by rw [hI.out _ (aD _)];trivial))).put (some dt) (.v _))
end
end Go.Xg
set_option maxHeartbeats 2000000
namespace Go.Xg
open GV (U)
open Go.RowKit Go.Xw Go.Proofs Tryz
open Go.Xp (Nd Ar)
open Go.Sp (Src)
open Go.Im (wS df bj oD sE gE dY oC oB oA)
open Go.Im (lY lX lW)
attribute [local irreducible] GW GL GO YG GC GA be bd
theorem Qh (l:List Int) (hl:l.length<=1048576):GF prog 138 [ints l] [] (ints l) []:=by
 have hm:(l.map (fun i=>[GV.v (ii i)])).length=l.length:=by simp
 refine ah func138 ntmps138 ?_;refine GL.Af rfl ⟨by omega,by omega⟩ ?_;intro a c;refine cE ?_;refine D ?_;refine GW.loop (fun k:Nat=>l.length - k) (fun k fr F=>∃ R Z,fr=[ints l,U,U,.v (.slice a (l.map (fun i=>[GV.v (ii i)])).length c),.v (ii (k:Nat)),U,U,U,U,U,U,U,U,U,U,U,U,U,U,U,U,U]/\F=[.vech 3 1 R (.slice a (l.map (fun i=>[GV.v (ii i)])).length c)]/\k<=l.length/\R=(l.take k).map (fun i=>[GV.v (ii i)])++List.replicate (l.length - k) Z) 0 ?_ ?_
 ·exact ⟨_,_,Wk.aE ao,_,_,rfl,rfl,aM _,by rw [hm];rfl⟩
 rintro k _ _ ⟨R,Z,rfl,rfl,hk,hR⟩
 have me:R.length=l.length:=by rw [hR];exact lX hk
 have ef:R.length=(l.map (fun i=>[GV.v (ii i)])).length:=by rw [hm];exact me
 by_cases ak:k < l.length
 ·have hx:l[k]?=some l[k]:=by simp [ak]
  have hr:(l.map (fun i=>[GV.v (ii i)]))[k]?=some ([GV.v (ii l[k])]):=by rw [aV,hx];rfl
  have dH:decide ((k:Int) < ((l.map (fun i=>[GV.v (ii i)])).length:Int))=true:=by rw [hm];simpa using ak
  have bY:=lY (f:=(fun i=>[GV.v (ii i)])) (Z:=Z) hx;rw [<-hR] at bY;clear hR;generalize l[k]=x at *;refine D ?_;refine lx ?_;refine D ?_;exact ⟨k+1,⟨_,_,Wk.aE ao,_,Z,rfl,rfl,ak,bY⟩,by show l.length - (k+1) < l.length - k;omega⟩
 ·have dH:decide ((k:Int) < ((l.map (fun i=>[GV.v (ii i)])).length:Int))=false:=by rw [hm];simpa using ak
  have my:k=l.length:=by omega
  subst my;rw [lW] at hR;subst hR;refine cl ?_;refine GW.wk (by apply Wk.oU (t:=3) (i:=0) <;> rfl) ?_;simp only [oset,bo];exact ay
theorem Am (l:List ae) (hl:l.length<=1048576):GF prog 31 [strs l] [] (strs l) []:=by
 have hm:(l.map (fun s=>[GV.v (sv s)])).length=l.length:=by simp
 refine ah func31 ntmps31 ?_;refine GL.Af rfl ⟨by omega,by omega⟩ ?_;intro a c;refine cE ?_;refine D ?_;refine GW.loop (fun k:Nat=>l.length - k) (fun k fr F=>∃ R Z,fr=[strs l,U,U,.v (.slice a (l.map (fun s=>[GV.v (sv s)])).length c),.v (ii (k:Nat)),U,U,U,U,U,U,U,U,U,U,U,U,U,U,U,U,U]/\F=[.vech 9 1 R (.slice a (l.map (fun s=>[GV.v (sv s)])).length c)]/\k<=l.length/\R=(l.take k).map (fun s=>[GV.v (sv s)])++List.replicate (l.length - k) Z) 0 ?_ ?_
 ·exact ⟨_,_,Wk.aE ao,_,_,rfl,rfl,aM _,by rw [hm];rfl⟩
 rintro k _ _ ⟨R,Z,rfl,rfl,hk,hR⟩
 have me:R.length=l.length:=by rw [hR];exact lX hk
 have ef:R.length=(l.map (fun s=>[GV.v (sv s)])).length:=by rw [hm];exact me
 by_cases ak:k < l.length
 ·have hx:l[k]?=some l[k]:=by simp [ak]
  have hr:(l.map (fun s=>[GV.v (sv s)]))[k]?=some ([GV.v (sv l[k])]):=by rw [aV,hx];rfl
  have dH:decide ((k:Int) < ((l.map (fun s=>[GV.v (sv s)])).length:Int))=true:=by rw [hm];simpa using ak
  have bY:=lY (f:=(fun s=>[GV.v (sv s)])) (Z:=Z) hx;rw [<-hR] at bY;clear hR;generalize l[k]=x at *;refine D ?_;refine lx ?_;refine D ?_;exact ⟨k+1,⟨_,_,Wk.aE ao,_,Z,rfl,rfl,ak,bY⟩,by show l.length - (k+1) < l.length - k;omega⟩
 ·have dH:decide ((k:Int) < ((l.map (fun s=>[GV.v (sv s)])).length:Int))=false:=by rw [hm];simpa using ak
  have my:k=l.length:=by omega
  subst my;rw [lW] at hR;subst hR;refine cl ?_;refine GW.wk (by apply Wk.oU (t:=3) (i:=0) <;> rfl) ?_;simp only [oset,bo];exact ay
theorem Em (x:Ar):GF prog 86 [.agg (az x)] [] (.agg (az x)) []:=by
 refine ah func86 ntmps86 ?_;exact dM
theorem Lf (l:List Ar) (hl:l.length<=1048576):GF prog 32 [.sl 2 (l.map az)] [] (.sl 2 (l.map az)) []:=by
 have hm:(l.map az).length=l.length:=by simp
 refine ah func32 ntmps32 ?_;refine GL.Af rfl ⟨by omega,by omega⟩ ?_;intro a c;refine cE ?_;refine D ?_;refine GW.loop (fun k:Nat=>l.length - k) (fun k fr F=>∃ R Z,fr=[.sl 2 (l.map az),U,U,.v (.slice a (l.map az).length c),.v (ii (k:Nat)),U,U,U,U,U,U,U,U,U,U,U,U,U,U,U,U,U,U]/\F=[.vech 56 2 R (.slice a (l.map az).length c)]/\k<=l.length/\R=(l.take k).map az++List.replicate (l.length - k) Z) 0 ?_ ?_
 ·exact ⟨_,_,Wk.aE ao,_,_,rfl,rfl,aM _,by rw [hm];rfl⟩
 rintro k _ _ ⟨R,Z,rfl,rfl,hk,hR⟩
 have me:R.length=l.length:=by rw [hR];exact lX hk
 have ef:R.length=(l.map az).length:=by rw [hm];exact me
 by_cases ak:k < l.length
 ·have hx:l[k]?=some l[k]:=by simp [ak]
  have hr:(l.map az)[k]?=some (az l[k]):=by rw [aV,hx];rfl
  have dH:decide ((k:Int) < ((l.map az).length:Int))=true:=by rw [hm];simpa using ak
  have bY:=lY (f:=az) (Z:=Z) hx;rw [<-hR] at bY;have hc:=Em l[k];clear hR;generalize l[k]=x at *;refine D ?_;refine V [] hc ?_;refine lx ?_;refine D ?_;exact ⟨k+1,⟨_,_,Wk.aE ao,_,Z,rfl,rfl,ak,bY⟩,by show l.length - (k+1) < l.length - k;omega⟩
 ·have dH:decide ((k:Int) < ((l.map az).length:Int))=false:=by rw [hm];simpa using ak
  have my:k=l.length:=by omega
  subst my;rw [lW] at hR;subst hR;refine cl ?_;refine GW.wk (by apply Wk.oU (t:=3) (i:=0) <;> rfl) ?_;simp only [oset,bo];exact ay
theorem VE (x:Go.Sp.Fn) (hp:x.params.length<=1048576):GF prog 87 [.agg (au x)] [] (.agg (au x)) []:=by
 have h0:=Am x.params hp;refine ah func87 ntmps87 ?_;refine V [] h0 ?_;exact dM
theorem S9 (l:List Go.Sp.Fn) (hl:l.length<=1048576) (he:∀ x∈l,x.params.length<=1048576):GF prog 33 [.sl 3 (l.map au)] [] (.sl 3 (l.map au)) []:=by
 have hm:(l.map au).length=l.length:=by simp
 refine ah func33 ntmps33 ?_;refine GL.Af rfl ⟨by omega,by omega⟩ ?_;intro a c;refine cE ?_;refine D ?_;refine GW.loop (fun k:Nat=>l.length - k) (fun k fr F=>∃ R Z,fr=[.sl 3 (l.map au),U,U,.v (.slice a (l.map au).length c),.v (ii (k:Nat)),U,U,U,U,U,U,U,U,U,U,U,U,U,U,U,U,U,U]/\F=[.vech 58 3 R (.slice a (l.map au).length c)]/\k<=l.length/\R=(l.take k).map au++List.replicate (l.length - k) Z) 0 ?_ ?_
 ·exact ⟨_,_,Wk.aE ao,_,_,rfl,rfl,aM _,by rw [hm];rfl⟩
 rintro k _ _ ⟨R,Z,rfl,rfl,hk,hR⟩
 have me:R.length=l.length:=by rw [hR];exact lX hk
 have ef:R.length=(l.map au).length:=by rw [hm];exact me
 by_cases ak:k < l.length
 ·have hx:l[k]?=some l[k]:=by simp [ak]
  have hr:(l.map au)[k]?=some (au l[k]):=by rw [aV,hx];rfl
  have dH:decide ((k:Int) < ((l.map au).length:Int))=true:=by rw [hm];simpa using ak
  have bY:=lY (f:=au) (Z:=Z) hx;rw [<-hR] at bY;have hex:=he _ (bF hx);have hc:=VE l[k] hex;clear hR;generalize l[k]=x at *;refine D ?_;refine V [] hc ?_;refine lx ?_;refine D ?_;exact ⟨k+1,⟨_,_,Wk.aE ao,_,Z,rfl,rfl,ak,bY⟩,by show l.length - (k+1) < l.length - k;omega⟩
 ·have dH:decide ((k:Int) < ((l.map au).length:Int))=false:=by rw [hm];simpa using ak
  have my:k=l.length:=by omega
  subst my;rw [lW] at hR;subst hR;refine cl ?_;refine GW.wk (by apply Wk.oU (t:=3) (i:=0) <;> rfl) ?_;simp only [oset,bo];exact ay
theorem Qj (x:Nd) (hp:x.kids.length<=1048576):GF prog 88 [.agg (aw x)] [] (.agg (aw x)) []:=by
 have h0:=Qh x.kids hp;refine ah func88 ntmps88 ?_;refine V [] h0 ?_;exact dM
theorem N0 (l:List Nd) (hl:l.length<=1048576) (he:∀ x∈l,x.kids.length<=1048576):GF prog 34 [.sl 5 (l.map aw)] [] (.sl 5 (l.map aw)) []:=by
 have hm:(l.map aw).length=l.length:=by simp
 refine ah func34 ntmps34 ?_;refine GL.Af rfl ⟨by omega,by omega⟩ ?_;intro a c;refine cE ?_;refine D ?_;refine GW.loop (fun k:Nat=>l.length - k) (fun k fr F=>∃ R Z,fr=[.sl 5 (l.map aw),U,U,.v (.slice a (l.map aw).length c),.v (ii (k:Nat)),U,U,U,U,U,U,U,U,U,U,U,U,U,U,U,U,U,U]/\F=[.vech 62 5 R (.slice a (l.map aw).length c)]/\k<=l.length/\R=(l.take k).map aw++List.replicate (l.length - k) Z) 0 ?_ ?_
 ·exact ⟨_,_,Wk.aE ao,_,_,rfl,rfl,aM _,by rw [hm];rfl⟩
 rintro k _ _ ⟨R,Z,rfl,rfl,hk,hR⟩
 have me:R.length=l.length:=by rw [hR];exact lX hk
 have ef:R.length=(l.map aw).length:=by rw [hm];exact me
 by_cases ak:k < l.length
 ·have hx:l[k]?=some l[k]:=by simp [ak]
  have hr:(l.map aw)[k]?=some (aw l[k]):=by rw [aV,hx];rfl
  have dH:decide ((k:Int) < ((l.map aw).length:Int))=true:=by rw [hm];simpa using ak
  have bY:=lY (f:=aw) (Z:=Z) hx;rw [<-hR] at bY;have hex:=he _ (bF hx);have hc:=Qj l[k] hex;clear hR;generalize l[k]=x at *;refine D ?_;refine V [] hc ?_;refine lx ?_;refine D ?_;exact ⟨k+1,⟨_,_,Wk.aE ao,_,Z,rfl,rfl,ak,bY⟩,by show l.length - (k+1) < l.length - k;omega⟩
 ·have dH:decide ((k:Int) < ((l.map aw).length:Int))=false:=by rw [hm];simpa using ak
  have my:k=l.length:=by omega
  subst my;rw [lW] at hR;subst hR;refine cl ?_;refine GW.wk (by apply Wk.oU (t:=3) (i:=0) <;> rfl) ?_;simp only [oset,bo];exact ay
theorem Ch (x:Src) (hg:x.globals.length<=1048576) (ha:x.arrays.length<=1048576) (hf:x.fns.length<=1048576) (MC:∀ f∈x.fns,f.params.length<=1048576) (hn:x.nodes.length<=1048576) (FG:∀ n∈x.nodes,n.kids.length<=1048576):GF prog 8 [.agg (ar x)] [] (.agg (ar x)) []:=by
 have h0:=Am x.globals hg;have L:=Lf x.arrays ha;have I:=S9 x.fns hf MC;have h3:=N0 x.nodes hn FG;refine ah func8 ntmps8 ?_;refine V [] h0 ?_;refine V [] L ?_;refine V [] I ?_;refine V [] h3 ?_;exact dM
end Go.Xg
