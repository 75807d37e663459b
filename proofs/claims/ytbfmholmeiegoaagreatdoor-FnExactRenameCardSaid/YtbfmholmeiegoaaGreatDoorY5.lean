/- Part 5 of proofs that are told in their last texts. -/
import Derived.Test.YtbfmholmeiegoaaGreatDoorY4
import Derived.IntWalk
import Derived.Laws.IdiomStrings
import Derived.Test.YtbfmholmeiegoaaGreatDoorProg
import Derived.KernelRfl
import Derived.Test.YtbfmholmeiegoaaGreatDoorY1
import Derived.Test.YtbfmholmeiegoaaGreatDoorY2
import Derived.Deep.Slices
import Derived.Deep.Fields
import Derived.ChangeSame
import Derived.Lib.SmallJoins
import Derived.SliceStrings
import Derived.ChangeSlices
import Derived.Lib.LaidU8
import Derived.Shelf.Vars
import Derived.Laws.Bits128
import Derived.Lib.AppendStr
import Derived.Laws.OwnMore
open List (cons_append ext_getElem flatten_cons getElem?_eq_getElem getElem?_map getElem_mem length_append length_cons length_map length_nil map_map mem_cons_self sum_cons toList_toArray)
set_option linter.unusedVariables false
set_option linter.unusedSimpArgs false
set_option maxRecDepth 100000
namespace Go.Xg
open Go.RowKit Go.Xw
section
variable {P:Program} {m:Nat} {Q:dU} {fr:List GV} {Γ:List Ob} {ops:Array Oper} {rest:List Oper} {d:Option Tmp} {op:Op} {ty:TypeId} {pos:String} {af:Array Edge}
theorem GW.join {c y:Code} (K:List GV->List Ob->Prop) (F:GW P m c (be (AO m K) Q) fr Γ) (I:∀ fr Γ,K fr Γ->GW P m y Q fr Γ):GW P m c (be (GW P m y Q) Q) fr Γ:=by
 refine F.mono fun e fr Γ hq=>?_
 cases e with
 | normal=>obtain ⟨cJ,aR,hw,hk⟩:=hq;exact GW.wk hw (I _ _ hk)
 | _=>exact hq
theorem YG.kO {x y:Operand} {t e:TypeId} {k:Nat} [hT:oB P t e k] {rows:List (List GV)} {kk:IntKind} {n:Int} {i:Nat} {r:List GV} (hx:bb fr x=.sl k rows) (hy:bb fr y=.v (.int kk n)) (hr:rows[i]?=some r) (hi:n=(i:Int)):YG P (.indexAddr t x y) fr Γ (.box r 0):=by
 subst hi;exact YG.ue hx hy hr
def kT:List (List GV)->Bool
 | []=>true
 | r::rs=>mO r&&kT rs
theorem Dp {rows:List (List GV)} (h:kT rows=true):mO rows.flatten=true:=by
 induction rows with
 | nil=>rfl
 | cons r rs ih =>
  simp only [kT,aC] at h
  have aaQ:∀ (a b:List GV),mO a=true->mO b=true->mO (a++b)=true:=by
   intro a
   induction a with
   | nil=>intro b _ hb;exact hb
   | cons x a zD =>
    intro b ha hb;simp only [mO,aC] at ha;simp only [cons_append,mO,aC];exact ⟨ha.1,zD b ha.2 hb⟩
  rw [flatten_cons];exact aaQ _ _ h.1 (ih h.2)
theorem GL.app {s x:Operand} {t e k iM:Nat} [hT:pN P t e k iM] {i n fz:Nat} {rows news:List (List GV)} (hx:bb fr x=.sl k news) (hs:bb fr s=.vec i n) (bM:Γ[i]?=some (.vec e k fz rows)) (hn:rows.length=n) (F:kT news=true) (ct:news.isEmpty=false)
  (hb:n+news.length<=9223372036854775807/\(n+news.length) * iM<=140737488355328)
  (h:GL P m ops Q rest (bJ fr d (.vec i (n+news.length))) (oset Γ i (.vec e k fz (rows++news)))) :
  GL P m ops Q (⟨d,.call ⟨.builtin .append,#[s,x],#[t,t]⟩,ty,pos,af,none⟩::rest) fr Γ:=fun B K β w l hm hI hF=>by
 subst hn
 have ct:news≠[]:=by intro h0;rw [h0] at ct;cases ct
 obtain ⟨h0,xs,o1,o2,o3,o4,o5,o6⟩:=hI.ob i _ bM;have uX:=hF.ev s;rw [hs] at uX
 have sc:ev l s=h0:=by
  generalize hv:ev l s=v at uX
  cases uX with
  | vec _ _ a c hh =>
   obtain ⟨h',m',e1,e2,e3⟩:=hh;rw [o1] at e1;cases e1;exact e3 rfl
 have uZ:=hF.ev x;rw [hx] at uZ;generalize tA:ev l x=v at uZ
 cases uZ with
 | sl0 a c k=>exact absurd rfl ct
 | sl b o c _ _ hr _ =>
  have mJ:iw k news:=fun r O0=>by
   obtain ⟨j,hj⟩:=List.mem_iff_getElem?.1 O0;refine ⟨(hr j r hj).1,fun g hg=>?_⟩;obtain ⟨q,hq⟩:=List.mem_iff_getElem?.1 hg;exact (hI.fz _ _ _ ((hr j r hj).2 q g hq)).1
  have Ap:∀ (rows:List (List GV)) (o:Nat),(∀ (j:Nat) r,rows[j]?=some r->r.length=k/\∀ (q:Nat) g,r[q]?=some g->K b (o+j * k+q)=some g)->∀ (q:Nat) g,rows.flatten[q]?=some g->K b (o+q)=some g:=by
   intro rows
   induction rows with
   | nil=>intro o _ q g hg;simp at hg
   | cons r rows ih =>
    intro o h q g hg;rw [flatten_cons] at hg;have hl:=(h 0 r rfl).1
    by_cases hq:q < r.length
    ·rw [fO hq] at hg;have:=(h 0 r rfl).2 q g hg;simpa using this
    ·rw [fa (by omega),hl] at hg
     have:=ih (o+k) (fun j r' hj=>by
      have:=h (j+1) r' (by simpa using hj);refine ⟨this.1,fun q g hg=>?_⟩;have:=this.2 q g hg
      rw [show o+(j+1) * k+q=o+k+j * k+q by rw [Nat.succ_mul];omega] at this;exact this) (q - k) g hg
     rw [show o+k+(q - k)=o+q by omega] at this;exact this
  obtain ⟨us,lH,me⟩:=xJ (K:=K) (β:=β) (H:=w.heap) (b:=b) news.flatten o (fun j g hj=>by
   obtain ⟨hp,u,hu,fX⟩:=hI.fz _ _ _ (Ap news o (fun j r hj=>hr j r hj) j g hj)
   exact ⟨u,hu,fX.pc hp⟩)
  have Fj:us.length=news.length * k:=by
   rw [lH.1,List.length_flatten]
   have:∀ (rows:List (List GV)),iw k rows->(rows.map List.length).sum=rows.length * k:=by
    intro rows
    induction rows with
    | nil=>intro _;simp
    | cons r rows ih =>
     intro hk;rw [List.map_cons,sum_cons,ih (fun r hr=>hk r (dw _ hr)),(hk r (mem_cons_self)).1,length_cons,Nat.succ_mul];omega
   exact this news mJ
  refine WL.app (base:=0) (v:=h0) (n:=rows.length) (m:=news.length) (xs:=xs) (news:=us) sc o2 tA Fj (fun j u hj=>by rw [fP];exact me j u hj) (lH.nb (Dp F)) hb.1 hb.2 (aM _) ?_;intro v' w' how ji vC wX
  obtain ⟨K',hK,se,bE⟩:=hI.grow bM o1 ⟨o2,o3⟩ (news:=news) (ns:=us) how ji vC lH mJ ct (fun b bD o v ho hv=>by
   rcases wX with h7 | h7
   ·exact h7.c hv (fun h=>h)
   ·have iP:o < xs.length:=by rw [o2.1];exact yD ho (rT k o6)
    obtain ⟨b2,c2,qL,_,_,ll⟩:=o2.cells.2 (by intro h0;rw [h0] at iP;simp at iP)
    have eA:b2=b:=by rw [qL] at bD;cases bD;rfl
    subst eA;have Fl:=ll o xs[o] (by simp [iP]);rw [fP,hv] at Fl;cases Fl;obtain ⟨b3,c3,OM,_,_,OH⟩:=how.cells.2 (by intro h0;have:xs=[]:=(List.append_eq_nil_iff.1 h0).1;rw [this] at iP;simp at iP)
    have zm:b3=b2:=by rw [OM,bD] at h7;cases h7;rfl
    subst zm
    rw [<-fP];exact OH o _ (by rw [fO iP];simp [iP]))
  rw [<-aZ] at bE;refine h B K' _ w' _ hm bE ((hF.mono hK se).put d ?_);obtain ⟨a,c,rfl⟩:=how.shape;exact .vec i _ a c ⟨_,_,bO,by simp,fun _=>by simp⟩
theorem Wk.wo {i o:Nat} {T:TypeId} {cs:List GV} (E k:Nat) (hi:Γ[i]?=some (.box T cs)) (ho:cs[o]?=some (.v (.slice none 0 0))):Wk m fr Γ fr (oset Γ i (.box T (bp cs o (.vec Γ.length 0)))++[.vec E k 0 []]):=fun B K β w l hm hI hF=>by
 have da:β Γ.length=.no:=hI.out _ (aE _);have ak:i < Γ.length:=(bo hi).1;have bE:=hI.Gr (w':=w) (E:=E) (k:=k) (x:=.slice none 0 0) (xs:=[]) (rows:=[]) (Ext.refl w) (jz.nil w 0 E k) (fun b hb=>by cases hb) bq.nil (fun r hr=>by cases hr);have hle:dX β (gQ β Γ.length (.gr (.slice none 0 0) ([]:List (List GV)).length)):=jM (by rw [da];trivial);refine ⟨K,_,⟨bE.ext,bE.kle,bE.ble,bE.loc,bE.fz,fun j x hj=>?_,fun j hj=>bE.out j (by simp [aZ] at hj |-;exact hj),bE.dis,bE.own,bE.kn,bE.tab⟩,hF.mono (dh.refl K) hle⟩
 by_cases hji:j=i
 ·subst hji;rw [fO (by simp [aZ];exact ak),aZ,dx] at hj;simp [ak] at hj;subst hj;obtain ⟨b,vs,F,I,h3,h4⟩:=bE.ob j (.box T cs) (by rw [fO ak];exact hi);refine ⟨b,vs,F,I,?_,h4⟩
  have gen:∀ (vs:List Value) (cs:List GV) (o:Nat),bq K (gQ β Γ.length (.gr (.slice none 0 0) ([]:List (List GV)).length)) vs cs->cs[o]?=some (.v (.slice none 0 0))->bq K (gQ β Γ.length (.gr (.slice none 0 0) ([]:List (List GV)).length)) vs (bp cs o (.vec Γ.length 0)):=by
   intro vs
   induction vs with
   | nil=>intro cs o h ho;have:cs=[]:=iC h.1.symm;subst this;simp at ho
   | cons v vs ih =>
    intro cs o h ho
    cases cs with
    | nil=>simp at ho
    | cons c cs =>
     obtain ⟨a1,a2⟩:=h.qo
     cases o with
     | zero =>
      cases ho;have hv:=Rel.gk a1;subst hv;exact .cons (.vec _ 0 none 0 ⟨_,_,bO,aE _,fun _=>rfl⟩) a2
     | succ o=>exact .cons a1 (ih cs o a2 (by simpa using ho))
  exact gen vs cs o h3 ho
 ·refine bE.ob j x ?_
  by_cases wV:j < Γ.length
  ·rw [fO (by simp [aZ];exact wV),aZ,dx,L (fun e=>hji e.symm)] at hj;rw [fO wV];exact hj
  ·rw [fa (by simp [aZ];omega)] at hj;rw [fa (by omega)];simpa [aZ] using hj
theorem Wk.qz {i o j n E k fz:Nat} {T:TypeId} {cs:List GV} {rows:List (List GV)} (hi:Γ[i]?=some (.box T cs)) (ho:cs[o]?=some (.vec j n)) (ir:Nat.beq i j=false) (hj:Γ[j]?=some (.vec E k fz rows)) (hn:rows.length=n):Wk m fr Γ fr (oset (oset Γ j (.vec E k n rows)) i (.box T (bp cs o (.sl k rows)))):=fun B K β w l hm hI hF=>by
 subst hn
 have ct:i≠j:=by intro e;subst e;simp at ir
 obtain ⟨h0,xs,o1,o2,o3,o4,o5,o6⟩:=hI.ob j _ hj;obtain ⟨K',hK,Ff,bE⟩:=hI.jD hj;rw [<-aZ] at bE;refine ⟨K',β,⟨bE.ext,bE.kle,bE.ble,bE.loc,bE.fz,fun q x hq=>?_,fun q hq=>bE.out q (by simpa [aZ] using hq),bE.dis,bE.own,bE.kn,bE.tab⟩,hF.mono hK (dX.refl β)⟩
 by_cases hqi:q=i
 ·subst hqi;have ak:q < Γ.length:=(bo hi).1;rw [aZ,dx] at hq;simp [aZ,ak] at hq;subst hq;obtain ⟨b,vs,F,I,h3,h4⟩:=bE.ob q (.box T cs) (by rw [aZ,dx,L (fun e=>ct e.symm)];exact hi);refine ⟨b,vs,F,I,?_,h4⟩
  have gen:∀ (vs:List Value) (cs:List GV) (o:Nat),bq K' β vs cs->cs[o]?=some (.vec j rows.length)->bq K' β vs (bp cs o (.sl k rows)):=by
   intro vs
   induction vs with
   | nil=>intro cs o h ho;have:cs=[]:=iC h.1.symm;subst this;simp at ho
   | cons v vs ih =>
    intro cs o h ho
    cases cs with
    | nil=>simp at ho
    | cons c cs =>
     obtain ⟨a1,a2⟩:=h.qo
     cases o with
     | zero =>
      cases ho;refine .cons ?_ a2
      cases a1 with
      | vec _ _ a c hh =>
       obtain ⟨h',m',e1,e2,e3⟩:=hh;rw [o1] at e1;cases e1;have e4:=e3 rfl
       rcases o2.2 with ⟨e5,e6⟩ | ⟨g,cap,cu,e5,_,_,rZ,_⟩
       ·have:rows=[]:=iC e6;subst this;exact .sl0 _ _ _
       ·rw [e5] at e4;cases e4;refine .sl g 0 _ k rows (fun j r hr=>⟨(o4 r (bA hr)).1,fun q g' mU=>?_⟩) rZ;rw [cI];exact Ff _ g o1 (by rw [e5];rfl) _ g' (vc o4 hr mU)
     | succ o=>exact .cons a1 (ih cs o a2 (by simpa using ho))
  exact gen vs cs o h3 ho
 ·rw [aZ,dx,L (fun e=>hqi e.symm)] at hq;exact bE.ob q x hq
end
class LF (P:Program) (t:TypeId) (k:outParam IntKind):Prop where
 und:P.underlying t=some (.int k)
class M6 (P:Program) (t:TypeId):Prop where
 und:∃ e,P.underlying t=some (.slice e)/\P.underlying e=some (.int .u8)
theorem M6.mk' {P:Program} {t e:TypeId} (h:P.underlying t=some (.slice e)) (k:P.underlying e=some (.int .u8)):M6 P t:=⟨e,h,k⟩
section
variable {P:Program} {m:Nat} {Q:dU} {fr:List GV} {Γ:List Ob} {ops:Array Oper} {rest:List Oper} {d:Option Tmp} {op:Op} {ty:TypeId} {pos:String} {af:Array Edge}
theorem YG.Ct {x y:Operand} {t t':TypeId} {a b:Int} (hx:bb fr x=.v (.int .u8 a)) (hy:bb fr y=.v (.int .u8 b)) (hb:0<=a - b/\a - b<=255):YG P (.binOp .sub t x y t') fr Γ (.v (.int .u8 (a - b))) :=
 YG.v2 hx hy fun l w h k d ty pos af=>by simp [execOp,eqGuard,h,k,binOp,Op.intArith,IntWalk.u8_in _ hb]
theorem YG.quo {x y:Operand} {t t':TypeId} {a b:Int} (hx:bb fr x=.v (ii a)) (hy:bb fr y=.v (ii b)) (hb:0<=a/\a<=9223372036854775807/\1<=b):YG P (.binOp .quo t x y t') fr Γ (.v (ii (a / b))) :=
 YG.v2 hx hy fun l w h k d ty pos af=>by
  have ct:b≠0:=by omega
  simp [execOp,eqGuard,h,k,binOp,Op.intDiv,ct,IntWalk.i64_quo a b hb]
theorem YG.rem {x y:Operand} {t t':TypeId} {a b:Int} (hx:bb fr x=.v (ii a)) (hy:bb fr y=.v (ii b)) (hb:0<=a/\1<=b):YG P (.binOp .rem t x y t') fr Γ (.v (ii (a % b))) :=
 YG.v2 hx hy fun l w h k d ty pos af=>by
  have ct:b≠0:=by omega
  simp [execOp,eqGuard,h,k,binOp,Op.intDiv,ct,IntWalk.rem_in a b hb.1]
theorem YG.yZ {x:Operand} {s t:TypeId} {k k':IntKind} {a:Int} [hS:LF P s k'] [hT:LF P t k] (hx:bb fr x=.v (.int k' a)) (hw:k.wrap a=a):YG P (.convert s t x) fr Γ (.v (.int k a)) :=
 YG.v1 hx fun l w h d ty pos af=>by simp [execOp,h,convert,run_underlying hS.und,run_underlying hT.und,Conv.intToInt,hw]
theorem YG.str {x:Operand} {s t:TypeId} {l:ae} {rows:List (List GV)} [hS:M6 P s] [hT:rb P t] (hx:bb fr x=.sl 1 rows) (hr:rows=l.map fun c=>[.v (.int .u8 (c.toNat:Int))]):YG P (.convert s t x) fr Γ (.v (sv l)):=fun B K β w fl hI hF=>by
 subst hr;obtain ⟨e,F,I⟩:=hS.und;have h:=hF.ev x;rw [hx] at h;generalize hv:ev fl x=v at h;refine ⟨_,fun d ty pos af=>?_,.v _⟩
 have key:(convert s t v).run P w=.ok (sv l) w:=by
  generalize mJ:(l.map fun c=>[GV.v (.int .u8 (c.toNat:Int))])=rows at h
  cases h with
  | sl0 a c =>
   have:l=[]:=by cases l with | nil=>rfl | cons x l=>simp at mJ
   subst this
   cases a with
   | none=>rw [run_convert_bytes_string w s t e none 0 c F I hT.und];simp [Conv.bytesToString];rfl
   | some a=>exact run_convert_bytes_back w s t e a c [] F I hT.und (fun j hj=>by simp at hj)
  | sl b o c _ _ hc _ =>
   have hl:rows.length=l.length:=by rw [<-mJ];simp
   rw [hl];refine run_convert_bytes_back w s t e ⟨b,o,none⟩ c l F I hT.und (fun j hj=>?_)
   have bK:rows[j]?=some [GV.v (.int .u8 (l[j].toNat:Int))]:=by rw [<-mJ];simp [hj]
   obtain ⟨_,u,hu,fX⟩:=hI.fz _ _ _ ((hc j _ bK).2 0 _ rfl);rw [rf,fP];have:=Rel.gk fX;subst this;simpa using hu
 simp [execOp,hv,key]
end
structure Hid (B:Prop):Prop where
 h:B
structure uB (aS:List Nat) (C:Prop):Prop where
 h:C
section
variable {P:Program} {m:Nat} {ops:Array Oper} {Q:dU} {rest:List Oper} {fr:List GV} {Γ:List Ob} {d:Option Tmp} {ty:TypeId} {pos:String} {af:Array Edge}
theorem GL.wI {f:FuncId} [hf:aJ P f] {aS:List Nat} {args:List Operand} {nq:Array TypeId} {gs:List GV} {jw sQ:List Ob} {g:GV} (hc:uB aS (GF P f gs jw g sQ)) (ha:lL (args.map (bb fr)) (cV (cB aS Γ.length) gs)) (fx:jn aS Γ.length=true)
  (bM:seen (cB aS Γ.length) Γ aS jw) (hl:Nat.ble aS.length sQ.length=true) (h:GL P m ops Q rest (bJ fr d (eC (cB aS Γ.length) g)) (dG Γ aS (sQ.map (Ob.eC (cB aS Γ.length))))) :
  GL P m ops Q (⟨d,.call ⟨.value (.func f),args.toArray,nq⟩,ty,pos,af,none⟩::rest) fr Γ:=GL.F9 aS hc.h ha fx bM hl h
theorem GL.V8 {f:FuncId} [hf:aJ P f] {aS:List Nat} {args:List Operand} {nq:Array TypeId} {gs:List GV} {jw:List Ob} {R:GV->List Ob->Prop} (hc:uB aS (GC P f gs jw R)) (ha:lL (args.map (bb fr)) (cV (cB aS Γ.length) gs)) (fx:jn aS Γ.length=true)
  (bM:seen (cB aS Γ.length) Γ aS jw) (h:∀ g aR,R g aR->aS.length<=aR.length/\GL P m ops Q rest (bJ fr d (eC (cB aS Γ.length) g)) (dG Γ aS (aR.map (Ob.eC (cB aS Γ.length))))) :
  GL P m ops Q (⟨d,.call ⟨.value (.func f),args.toArray,nq⟩,ty,pos,af,none⟩::rest) fr Γ:=GL.F8 aS hc.h ha fx bM h
theorem GL.ND {f:FuncId} [hf:aJ P f] {aS:List Nat} {x:Operand} {first cap:List GV} {args:List Operand} {nq:Array TypeId} {gs:List GV} {jw:List Ob} {R:GV->List Ob->Prop} (hc:uB aS (GC P f gs jw R)) (hx:bb fr x=.fn (.func f) first cap) (ha:first++args.map (bb fr)++cap=cV (cB aS Γ.length) gs) (fx:jn aS Γ.length=true)
  (bM:seen (cB aS Γ.length) Γ aS jw) (h:∀ g aR,R g aR->aS.length<=aR.length/\GL P m ops Q rest (bJ fr d (eC (cB aS Γ.length) g)) (dG Γ aS (aR.map (Ob.eC (cB aS Γ.length))))) :
  GL P m ops Q (⟨d,.call ⟨.value x,args.toArray,nq⟩,ty,pos,af,none⟩::rest) fr Γ:=GL.sV aS hc.h hx ha fx bM h
theorem GL.NC {f:FuncId} [hf:aJ P f] {aS:List Nat} {x:Operand} {args:List Operand} {nq:Array TypeId} {gs:List GV} {jw:List Ob} {R:GV->List Ob->Prop} (hc:uB aS (GC P f gs jw R)) (hx:bb fr x=.v (.func (.func f) #[] #[])) (ha:args.map (bb fr)=cV (cB aS Γ.length) gs) (fx:jn aS Γ.length=true)
  (bM:seen (cB aS Γ.length) Γ aS jw) (h:∀ g aR,R g aR->aS.length<=aR.length/\GL P m ops Q rest (bJ fr d (eC (cB aS Γ.length) g)) (dG Γ aS (aR.map (Ob.eC (cB aS Γ.length))))) :
  GL P m ops Q (⟨d,.call ⟨.value x,args.toArray,nq⟩,ty,pos,af,none⟩::rest) fr Γ:=GL.Y7 aS hc.h hx ha fx bM h
end
theorem cx {A : Prop} (s : A := by first | omega | assumption | (simp only [List.length_append,List.length_cons,List.length_nil];omega)) : A := s
theorem bj {A : Prop} (s : A := by first | rfl | assumption) : A := s
theorem rS {A : Prop} (s : A := by apply K.len;first | exact YG.ZE rfl | exact YG.R3 rfl | exact YG.abE rfl | exact YG.abF rfl | exact YG.lenA rfl) : A := s
theorem dI {A : Prop} (s : A := by first | exact .inr rfl | exact .inl rfl) : A := s
theorem tJ {A : Prop} (s : A := by apply K.ld;first | exact YG.w9 rfl rfl bj | exact YG.B3 rfl rfl rfl rfl | exact YG.ldV rfl rfl bj bj bj | exact YG.X5 rfl rfl bj bj bj) : A := s
theorem Qy {A : Prop} (s : A := by apply K.ld;first | exact YG.w9 rfl rfl bj | exact YG.ldB rfl bj | exact YG.B3 rfl rfl rfl rfl | exact YG.XZ rfl rfl rfl | exact YG.ldV rfl rfl bj bj bj | exact YG.X5 rfl rfl bj bj bj) : A := s
theorem py {A : Prop} (s : A := by apply K.nck;first | exact YG.abJ rfl | exact YG.abI rfl) : A := s
theorem qs {A : Prop} (s : A := by apply K.pick;first | exact YG.Ud rfl bj | exact YG.Uc rfl bj) : A := s
theorem cl {A : Prop} (s : A := by assumption) : A := s
theorem fm {A : Prop} (s : A := by omega) : A := s
theorem DH {A : Prop} (s : A := by apply K.bin;first | exact YG.go rfl | exact YG.vZ rfl rfl fm | exact YG.xM rfl rfl | exact YG.yk rfl rfl | exact YG.CE rfl rfl | exact YG.Dk rfl rfl | exact YG.cat rfl rfl fm | exact YG.cat rfl rfl (by simp only [List.length_append,List.length_cons,List.length_nil];omega) | exact YG.xE rfl rfl fm | exact YG.add rfl rfl fm | exact YG.sub rfl rfl fm | exact YG.mul rfl rfl fm | exact YG.Ct rfl rfl fm | exact YG.quo rfl rfl fm | exact YG.rem rfl rfl fm | exact YG.uf rfl rfl) : A := s
theorem DI {A : Prop} (s : A := by apply K.Is;first | exact YG.Cr rfl rfl rfl fm | exact YG.Co rfl rfl fm | exact YG.Cn rfl rfl fm | exact YG.vg 1 rfl rfl rfl bj) : A := s
theorem Um {A : Prop} (s : A := by apply K.idx;first | exact YG.idxV rfl rfl rfl bj fm | exact YG.cU 0 rfl rfl rfl cx | exact YG.cU 1 rfl rfl rfl cx | exact YG.cU 2 rfl rfl rfl cx | exact YG.cU 3 rfl rfl rfl cx | exact YG.cU 4 rfl rfl rfl cx | exact YG.cU 5 rfl rfl rfl cx | exact YG.cU 6 rfl rfl rfl cx) : A := s
theorem Un {A : Prop} (s : A := by apply K.idx;first | exact YG.ue rfl rfl cl | exact YG.kO rfl rfl cl rfl | exact YG.kO rfl rfl cl fm | exact YG.wh rfl rfl fm | exact YG.idxV rfl rfl rfl bj fm | exact YG.cU 0 rfl rfl rfl cx | exact YG.cU 1 rfl rfl rfl cx | exact YG.cU 2 rfl rfl rfl cx | exact YG.cU 3 rfl rfl rfl cx | exact YG.cU 4 rfl rfl rfl cx | exact YG.cU 5 rfl rfl rfl cx | exact YG.cU 6 rfl rfl rfl cx) : A := s
theorem z7 {A : Prop} (s : A := by first | rfl | exact IntWalk.i64_in _ fm | exact IntWalk.u8_in _ fm | assumption) : A := s
theorem IP {A : Prop} (s : A := by apply K.idx;first | exact YG.ue rfl rfl cl | exact YG.kO rfl rfl cl rfl | exact YG.kO rfl rfl cl fm | exact YG.wh rfl rfl fm) : A := s
theorem qt {A : Prop} (s : A := by apply K.Eh;first | exact YG.mkfn0 | exact YG.Eh) : A := s
theorem rQ {A : Prop} (s : A := by apply K.ld;first | exact YG.ldB rfl bj | exact YG.XZ rfl rfl rfl) : A := s
theorem QA {A : Prop} (s : A := by apply K.Wl;first | exact YG.Wo rfl | exact YG.Wm rfl | exact YG.fldV rfl rfl bj | exact YG.Wn rfl rfl bj) : A := s
theorem M1 {A : Prop} (s : A := by first | exact YG.mv | exact YG.vr | exact DH | exact QA | exact Qy | exact rS | exact py | exact qs | exact Un | exact YG.ext rfl rfl | exact YG.go rfl | exact DI | exact YG.sx rfl rfl cl | exact YG.idxSC rfl rfl cl rfl | exact qt | exact YG.build rfl | exact YG.neg rfl fm | exact YG.sr rfl rfl | exact YG.yZ rfl z7 | exact YG.str rfl bj) : A := s
theorem rR {A : Prop} (s : A := by apply K.Wl;first | exact YG.Wo rfl | exact YG.Wm rfl) : A := s
theorem tK {A : Prop} (s : A := by apply K.Wl;first | exact YG.fldV rfl rfl bj | exact YG.Wn rfl rfl bj) : A := s
theorem Ul {A : Prop} (s : A := by first | exact tJ | exact Um | exact tK | exact YG.tF 1 rfl rfl bj bj | exact YG.mv | exact YG.vr | exact DH | exact rR | exact rQ | exact rS | exact py | exact qs | exact IP | exact YG.ext rfl rfl | exact YG.go rfl | exact DI | exact YG.sx rfl rfl cl | exact YG.idxSC rfl rfl cl rfl | exact qt | exact YG.build rfl | exact YG.neg rfl fm | exact YG.sr rfl rfl | exact YG.yZ rfl z7 | exact YG.str rfl bj) : A := s
theorem Qz {A : Prop} (s : A := by first | exact tJ | exact Um | exact tK | exact YG.tF 1 rfl rfl bj bj) : A := s
theorem kg {A:Prop} (s:A:=by repeat (first | exact jg.n | (apply jg.w;(· decide +kernel)) | (apply jg.y;(· first | (apply YQ.t;(· exact rfl);(· exact rfl);(· exact Ul)) | (apply YQ.t;(· exact rfl);(· apply BN;(· exact rfl);(· first | exact rfl | assumption));(· exact Ul)) | (apply YQ.f;(· exact rfl);(· apply D3;(· exact rfl);(· first | exact rfl | assumption))))))):A:=s
theorem eh {A:Prop} (s:A:=by (try simp only [bJ,bp,bb,cz,List.length_cons,List.length_nil,Nat.reduceAdd,eC,cV,cB]);rfl):A:=s
theorem fD {A:Prop} (s:A:=by (try simp only [List.cons_append,List.nil_append,oset,oD,bp,cz,bb,dG,List.map_cons,List.map_nil,Ob.eC,eC,cV,cB]);rfl):A:=s
theorem nU {A:Prop} (s:A:=by simp only [bJ,bp,bb,cz];rfl):A:=s
theorem lD {A:Prop} (s:A:=by first | exact lL.refl | (repeat (first | exact lL.nil | exact nY.refl | exact nY.nil | exact nY.U | exact nY.fn0 | refine lL.cons ?_ ?_ | refine nY.agg ?_))):A:=s
theorem pz {A:Prop} (s:A:=by first | exact trivial | exact ⟨rfl,trivial⟩ | exact ⟨rfl,rfl,trivial⟩ | exact ⟨rfl,rfl,rfl,trivial⟩ | exact ⟨rfl,rfl,rfl,rfl,rfl,trivial⟩):A:=s
theorem D {A B:Prop} (h:B) (s:Hid B->A:=by intro hQ;(repeat (first | ((first | (apply GL.q;(· exact M1)) | refine GL.nil ?_ | refine ba ?_ | refine GW.seq ?_ | refine GW.region ?_ | refine GW.skip ?_ | refine jG ?_ | refine GW.block ?_ | (apply GL.gt;(· exact rfl);(· first | exact rfl | assumption)) | (apply GL.gf;(· exact rfl);(· first | exact rfl | assumption)) | (apply GL.gu;(· exact rfl)) | (apply Nh;(· exact rfl);(· first | exact rfl | assumption)) | (apply Ng;(· exact rfl);(· first | exact rfl | assumption)));try refine GN nU ?_) | ((first | (apply GL.alloc;(· simp only [jW,Value.cells,List.map_cons,List.map_nil];rfl)) | (apply GL.box;(· exact rfl)) | (apply GL.st;(· exact rfl);(· exact rfl);(· exact rfl);(· exact rfl);(· exact rfl);(· exact rfl)));refine oL eh fD ?_)));exact hQ.1):A:=s ⟨h⟩
theorem ao {A B:Prop} (h:B) (s:Hid B->A:=by intro hQ;(repeat ((first | (apply OPm;(· exact rfl)) | (apply OPa;(· exact rfl)) | (apply OP;(· exact rfl);(· intro Γ;(first | exact DH | exact rR | exact rQ | exact rS | exact py | exact IP | exact YG.ext rfl rfl | exact YG.go rfl | exact DI | exact YG.sx rfl rfl cl | exact YG.idxSC rfl rfl cl rfl | exact qt | exact YG.build rfl | exact YG.neg rfl fm | exact YG.sr rfl rfl | exact YG.yZ rfl z7 | exact YG.str rfl bj))) | (apply aae;(· exact rfl);(· exact rfl);(· first | exact rfl | assumption)) | (apply aad;(· exact rfl);(· exact rfl);(· first | exact rfl | assumption)) | (apply aaf;(· exact rfl);(· exact rfl);(· first | exact rfl | assumption)) | (apply OQ;(· exact rfl);(· exact Qz)) | (apply OPt;(· exact rfl);(· exact rfl);(· first | exact rfl | assumption);(· intro Γ;(first | exact YG.mv | exact YG.vr | exact DH | exact rR | exact rQ | exact rS | exact py | exact qs | exact IP | exact YG.ext rfl rfl | exact YG.go rfl | exact DI | exact YG.sx rfl rfl cl | exact YG.idxSC rfl rfl cl rfl | exact qt | exact YG.build rfl | exact YG.neg rfl fm | exact YG.sr rfl rfl | exact YG.yZ rfl z7 | exact YG.str rfl bj))) | (apply OQt;(· exact rfl);(· exact rfl);(· first | exact rfl | assumption);(· exact Qz)) | (apply ONf;(· exact rfl);(· exact rfl);(· first | exact rfl | assumption)) | (apply ONu;(· exact rfl);(· exact rfl)) | (apply OAf;(· exact rfl);(· exact rfl);(· first | exact rfl | assumption);(· exact kg)) | (apply OAu;(· exact rfl);(· exact rfl);(· exact kg)) | refine GO.nil ?_ | (apply OA;(· exact rfl);(· exact rfl);apply GL.alloc;(· simp only [jW,Value.cells,List.map_cons,List.map_nil];rfl);refine GL.nil (ba (fv.mk kg ?_));refine pS eh fD ?_) | (apply OA;(· exact rfl);(· exact rfl);apply GL.st;(· exact rfl);(· exact rfl);(· exact rfl);(· exact rfl);(· exact rfl);(· exact rfl);refine GL.nil (ba (fv.mk kg ?_));refine pS eh fD ?_) | (apply OA;(· exact rfl);(· exact rfl);apply GL.box;(· exact rfl);refine GL.nil (ba (fv.mk kg ?_));refine pS eh fD ?_));try refine GON nU ?_));exact hQ.1):A:=s ⟨h⟩
theorem jS {A B:Prop} (h:B) (s:Hid B->A:=by intro hQ;(repeat (first | ((first | (apply GL.q;(· (first | exact YG.mv | exact YG.vr | exact DH | exact QA | exact Qy | exact rS | exact py | exact qs | exact Un | exact YG.ext rfl rfl | exact YG.go rfl | exact DI | exact YG.sx rfl rfl cl | exact YG.idxSC rfl rfl cl rfl | fail | exact YG.build rfl | exact YG.neg rfl fm | exact YG.sr rfl rfl | exact YG.yZ rfl z7 | exact YG.str rfl bj))) | refine GL.nil ?_ | refine ba ?_ | refine GW.seq ?_ | refine GW.region ?_ | refine GW.skip ?_ | refine jG ?_ | refine GW.block ?_ | (apply GL.gt;(· exact rfl);(· first | exact rfl | assumption)) | (apply GL.gf;(· exact rfl);(· first | exact rfl | assumption)) | (apply GL.gu;(· exact rfl)) | (apply Nh;(· exact rfl);(· first | exact rfl | assumption)) | (apply Ng;(· exact rfl);(· first | exact rfl | assumption)));try refine GN nU ?_) | ((first | (apply GL.alloc;(· simp only [jW,Value.cells,List.map_cons,List.map_nil];rfl)) | (apply GL.box;(· exact rfl)) | (apply GL.st;(· exact rfl);(· exact rfl);(· exact rfl);(· exact rfl);(· exact rfl);(· exact rfl)));refine oL eh fD ?_)));exact hQ.1):A:=s ⟨h⟩
theorem ED {A B:Prop} (h:B) (s:Hid B->A:=by intro hQ;(repeat (first | ((first | (apply GL.q;(· exact M1)) | refine GL.nil ?_ | refine ba ?_ | refine GW.seq ?_ | refine GW.region ?_ | refine GW.skip ?_ | refine jG ?_ | (apply GL.gt;(· exact rfl);(· first | exact rfl | assumption)) | (apply GL.gf;(· exact rfl);(· first | exact rfl | assumption)) | (apply GL.gu;(· exact rfl)) | (apply Nh;(· exact rfl);(· first | exact rfl | assumption)) | (apply Ng;(· exact rfl);(· first | exact rfl | assumption)));try refine GN nU ?_) | ((first | (apply GL.alloc;(· simp only [jW,Value.cells,List.map_cons,List.map_nil];rfl)) | (apply GL.box;(· exact rfl)) | (apply GL.st;(· exact rfl);(· exact rfl);(· exact rfl);(· exact rfl);(· exact rfl);(· exact rfl)));refine oL eh fD ?_)));exact hQ.1):A:=s ⟨h⟩
theorem bm {A B:Prop} (h:B) (s:Hid B->A:=by intro hQ;(try refine GN nU ?_);exact hQ.1):A:=s ⟨h⟩
theorem vW {A B:Prop} (h:B) (s:Hid B->A:=by intro hQ;(try refine GON nU ?_);exact hQ.1):A:=s ⟨h⟩
theorem dk {A B:Prop} (h:B) (s:Hid B->A:=by intro hQ;(refine oL eh fD ?_);exact hQ.1):A:=s ⟨h⟩
theorem Qx {A B:Prop} (h:B) (s:Hid B->A:=by intro hQ;(refine pS eh fD ?_);exact hQ.1):A:=s ⟨h⟩
theorem ky {A B:Prop} (h:B) (s:Hid B->A:=by intro hQ;((repeat (first | refine GW.exit ?_ | refine GR ?_ | refine J8 ?_ | refine ginb_xn rfl ?_ | refine jG ?_ | refine ba ?_)));exact hQ.1):A:=s ⟨h⟩
theorem cH {A B:Prop} (h:B) (s:Hid B->A:=by intro hQ;((repeat (first | refine GW.ret ?_ | refine iO ?_ | refine iN ?_ | refine ba ?_ | refine jG ?_));refine xP rfl dI rfl (Nat.le_refl _) rfl rfl ?_);exact hQ.1):A:=s ⟨h⟩
theorem dz {A B:Prop} (h:B) (s:Hid B->A:=by intro hQ;((repeat (first | refine GW.ret ?_ | refine iO ?_ | refine iN ?_ | refine ba ?_ | refine jG ?_));refine Wv rfl dI (Nat.le_refl _) rfl ?_);exact hQ.1):A:=s ⟨h⟩
theorem AF {A B:Prop} (h:B) (s:Hid B->A:=by intro hQ;((repeat (first | refine GW.ret ?_ | refine iO ?_ | refine iN ?_ | refine ba ?_ | refine jG ?_));refine Ww rfl dI rfl rfl (Nat.le_refl _) rfl rfl ?_);exact hQ.1):A:=s ⟨h⟩
theorem Ls {A B:Prop} (h:B) (s:Hid B->A:=by intro hQ;((repeat (first | refine GW.ret ?_ | refine iO ?_ | refine iN ?_ | refine ba ?_ | refine jG ?_));refine Wx rfl dI rfl rfl rfl (Nat.le_refl _) rfl rfl ?_);exact hQ.1):A:=s ⟨h⟩
theorem sN {A B:Prop} (h:B) (s:Hid B->A:=by intro hQ;((repeat (first | refine GW.ret ?_ | refine iO ?_ | refine iN ?_ | refine ba ?_ | refine jG ?_));refine zd ?_;refine Wx rfl dI rfl rfl rfl (Nat.le_refl _) rfl rfl ?_);exact hQ.1):A:=s ⟨h⟩
theorem IM {A B:Prop} (h:B) (s:Hid B->A:=by intro hQ;((repeat (first | refine GW.ret ?_ | refine iO ?_ | refine iN ?_ | refine ba ?_ | refine jG ?_));refine zd ?_;refine Ww rfl dI rfl rfl (Nat.le_refl _) rfl rfl ?_);exact hQ.1):A:=s ⟨h⟩
theorem sO {A B:Prop} (h:B) (s:Hid B->A:=by intro hQ;((repeat (first | refine GW.ret ?_ | refine iO ?_ | refine iN ?_ | refine ba ?_ | refine jG ?_));refine zd ?_;refine Wy rfl dI rfl rfl rfl (Nat.le_refl _) rfl rfl ?_);exact hQ.1):A:=s ⟨h⟩
theorem kJ {A B:Prop} (h:B) (s:Hid B->A:=by intro hQ;((repeat (first | refine GW.ret ?_ | refine iO ?_ | refine iN ?_ | refine ba ?_ | refine jG ?_));refine Tm rfl dI rfl rfl rfl rfl (Nat.le_refl _) rfl rfl ?_);exact hQ.1):A:=s ⟨h⟩
theorem px {A B:Prop} (h:B) (s:Hid B->A:=by intro hQ;((repeat (first | refine GW.ret ?_ | refine iO ?_ | refine iN ?_ | refine ba ?_ | refine jG ?_));refine zd ?_;refine Tm rfl dI rfl rfl rfl rfl (Nat.le_refl _) rfl rfl ?_);exact hQ.1):A:=s ⟨h⟩
theorem nG {A B:Prop} (h:B) (s:Hid B->A:=by intro hQ;((repeat (first | refine GW.ret ?_ | refine iO ?_ | refine iN ?_ | refine ba ?_ | refine jG ?_));refine Oq rfl dI rfl rfl rfl rfl rfl (Nat.le_refl _) rfl rfl ?_);exact hQ.1):A:=s ⟨h⟩
theorem DG {A B:Prop} (h:B) (s:Hid B->A:=by intro hQ;((repeat (first | refine GW.ret ?_ | refine iO ?_ | refine iN ?_ | refine ba ?_ | refine jG ?_));refine zd ?_;refine Oq rfl dI rfl rfl rfl rfl rfl (Nat.le_refl _) rfl rfl ?_);exact hQ.1):A:=s ⟨h⟩
theorem Lt {A B:Prop} (h:B) (s:Hid B->A:=by intro hQ;((repeat (first | refine GW.ret ?_ | refine iO ?_ | refine iN ?_ | refine ba ?_ | refine jG ?_));refine Wy rfl dI rfl rfl rfl (Nat.le_refl _) rfl rfl ?_);exact hQ.1):A:=s ⟨h⟩
theorem cD {A B:Prop} (h:B) (s:Hid B->A:=by intro hQ;(refine GL.mkF rfl rfl rfl rfl ?_;refine oL eh fD ?_);exact hQ.1):A:=s ⟨h⟩
theorem rP {A B:Prop} (h:B) (s:Hid B->A:=by intro hQ;(refine GL.mkV rfl rfl rfl rfl ?_;refine oL eh fD ?_);exact hQ.1):A:=s ⟨h⟩
theorem fk {A B:Prop} (h:B) (s:Hid B->A:=by intro hQ;(refine GL.push rfl rfl rfl rfl rfl rfl rfl rfl bj ⟨⟨by omega,by omega⟩,by decide⟩ ?_;refine oL eh fD ?_);exact hQ.1):A:=s ⟨h⟩
theorem qY {A B:Prop} (h:B) (s:Hid B->A:=by intro hQ;(refine OA rfl rfl (GL.mkV rfl rfl rfl rfl (GL.nil (ba (fv.mk kg ?_))));refine pS eh fD ?_);exact hQ.1):A:=s ⟨h⟩
theorem nu {A B:Prop} (h:B) (s:Hid B->A:=by intro hQ;(refine OA rfl rfl (GL.app rfl rfl rfl bj rfl rfl (by refine ⟨?_,?_⟩;(· show _+1<=_;omega);(· show (_+1) * _<=_;omega)) (GL.nil (ba (fv.mk kg ?_))));refine pS eh fD ?_);exact hQ.1):A:=s ⟨h⟩
theorem dC {A B:Prop} (h:B) (s:Hid B->A:=by intro hQ;(refine OA rfl rfl (GL.mkF rfl rfl rfl rfl (GL.nil (ba (fv.mk kg ?_))));refine pS eh fD ?_);exact hQ.1):A:=s ⟨h⟩
theorem IL {A B:Prop} (h:B) (s:Hid B->A:=by intro hQ;(refine OA rfl rfl (GL.st rfl rfl rfl rfl rfl rfl (GL.nil (ba (fv.mk kg ?_))));refine pS eh fD ?_);exact hQ.1):A:=s ⟨h⟩
theorem M0 {A B:Prop} (h:B) (s:Hid B->A:=by intro hQ;(refine OA rfl rfl (GL.Qu 1 (by kernel_rfl) (by kernel_rfl) rfl rfl rfl rfl cl fm (GL.nil (ba (fv.mk kg ?_))));refine pS eh fD ?_);exact hQ.1):A:=s ⟨h⟩
theorem kP {A B:Prop} (h:B) (s:Hid B->A:=by intro hQ;(refine GL.stH rfl rfl rfl bj rfl rfl rfl rfl ?_;refine oL eh fD ?_);exact hQ.1):A:=s ⟨h⟩
theorem lV {A B:Prop} (h:B) (s:Hid B->A:=by intro hQ;(refine GL.abM rfl rfl (by first | rfl | assumption | omega) fm rfl rfl rfl rfl ?_;refine oL eh fD ?_);exact hQ.1):A:=s ⟨h⟩
theorem dH {A B:Prop} (h:B) (s:Hid B->A:=by intro hQ;(refine ⟨by simp,?_⟩;refine oL eh fD ?_);exact hQ.1):A:=s ⟨h⟩
theorem dd {A B:Prop} (h:B) (s:Hid B->A:=by intro hQ;(refine GL.nil (ba (fv.mk kg ?_));refine pS eh fD ?_);exact hQ.1):A:=s ⟨h⟩
theorem pL {A:Prop} (s:A:=by simp only [aQ,sn];rfl):A:=s
theorem gS {A:Prop} (s:A:=by first | exact lL.refl | exact nY.refl | (repeat (first | exact lL.nil | exact nY.refl | exact nY.nil | exact nY.U | exact nY.fn0 | refine lL.cons ?_ ?_ | refine nY.agg ?_ | refine nY.tup ?_))):A:=s
theorem ar {A:Prop} (s:A:=by repeat (first | exact uF.nil | refine uF.U ?_ | refine uF.eq rfl ?_)):A:=s
theorem fR {A B C:Prop} (aS:List Nat) (c:C) (h:B) (s:uB aS C->Hid B->A:=by intro hC hQ;(refine GL.wI hC lD rfl pz rfl ?_;refine oL eh fD ?_);exact hQ.1):A:=s ⟨c⟩ ⟨h⟩
theorem V {A B C:Prop} (aS:List Nat) (c:C) (h:B) (s:uB aS C->Hid B->A:=by intro hC hQ;(refine GL.wI hC lD rfl pz rfl ?_;refine oL eh fD ?_);refine D ?_;exact hQ.1):A:=s ⟨c⟩ ⟨h⟩
theorem yB {A B C:Prop} (aS:List Nat) (c:C) (h:B) (s:uB aS C->Hid B->A:=by intro hC hQ;(refine OA rfl rfl (GL.wI hC lD rfl pz rfl (GL.nil (ba (fv.mk kg ?_))));refine pS eh fD ?_);exact hQ.1):A:=s ⟨c⟩ ⟨h⟩
theorem aI {A B C:Prop} (aS:List Nat) (c:C) (h:B) (s:uB aS C->Hid B->A:=by intro hC hQ;(refine OA rfl rfl (GL.wI hC lD rfl pz rfl (GL.nil (ba (fv.mk kg ?_))));refine pS eh fD ?_);refine ao ?_;exact hQ.1):A:=s ⟨c⟩ ⟨h⟩
theorem aac {A B C:Prop} (aS:List Nat) (c:C) (h:B) (s:uB aS C->Hid B->A:=by intro hC hQ;(refine Ta rfl rfl rfl (by first | exact rfl | assumption) (GL.wI hC lD rfl pz rfl (GL.nil (ba (fv.mk kg ?_))));refine pS eh fD ?_);exact hQ.1):A:=s ⟨c⟩ ⟨h⟩
theorem b6 {A B C:Prop} (aS:List Nat) (c:C) (h:B) (s:uB aS C->Hid B->A:=by intro hC hQ;(refine Ta rfl rfl rfl (by first | exact rfl | assumption) (GL.wI hC lD rfl pz rfl (GL.nil (ba (fv.mk kg ?_))));refine pS eh fD ?_);refine ao ?_;exact hQ.1):A:=s ⟨c⟩ ⟨h⟩
theorem jR {A B C:Prop} (aS:List Nat) (c:C) (h:B) (s:uB aS C->Hid B->A:=by intro hC hQ;(refine GL.NC hC rfl rfl rfl pz ?_;rintro _ _ ⟨rfl,rfl⟩;refine ⟨by simp,?_⟩;refine oL eh fD ?_);exact hQ.1):A:=s ⟨c⟩ ⟨h⟩
theorem pk {A B C:Prop} (aS:List Nat) (c:C) (h:B) (s:uB aS C->Hid B->A:=by intro hC hQ;(refine GL.ND hC rfl rfl rfl pz ?_;rintro _ _ ⟨rfl,rfl⟩;refine ⟨by simp,?_⟩;refine oL eh fD ?_);exact hQ.1):A:=s ⟨c⟩ ⟨h⟩
theorem z6 {A B C:Prop} (aS:List Nat) (c:C) (h:B) (s:uB aS C->Hid B->A:=by intro hC hQ;(refine OA rfl rfl (GL.NC hC rfl rfl rfl pz ?_);rintro _ _ ⟨rfl,rfl⟩;refine ⟨by simp,(GL.nil (ba (fv.mk kg ?_)))⟩;refine pS eh fD ?_);exact hQ.1):A:=s ⟨c⟩ ⟨h⟩
theorem po {A B C:Prop} (aS:List Nat) (c:C) (h:B) (s:uB aS C->Hid B->A:=by intro hC hQ;(refine OA rfl rfl (GL.ND hC rfl rfl rfl pz ?_);rintro _ _ ⟨rfl,rfl⟩;refine ⟨by simp,(GL.nil (ba (fv.mk kg ?_)))⟩;refine pS eh fD ?_);exact hQ.1):A:=s ⟨c⟩ ⟨h⟩
theorem cM {A B C:Prop} (aS:List Nat) (c:C) (h:B) (s:uB aS C->Hid B->A:=by intro hC hQ;(refine GL.V8 hC lD rfl pz ?_);exact hQ.1):A:=s ⟨c⟩ ⟨h⟩
theorem cL {A B C acx : Prop} (f : C) (n : acx) (h : B) (s : C -> acx -> Hid B -> A := by intro hC hD hQ;refine GC.enter hC hD rfl (by simp only [ze,GQ,Nat.reduceSub];rfl) ?_;exact hQ.1) : A := s f n ⟨h⟩
theorem ah {A B C acx : Prop} (f : C) (n : acx) (h : B) (s : C -> acx -> Hid B -> A := by intro hC hD hQ;refine GC.enter hC hD rfl (by simp only [ze,GQ,Nat.reduceSub];rfl) ?_;refine D ?_;exact hQ.1) : A := s f n ⟨h⟩
theorem aj {A : Prop} (s : A := by refine cH ?_;exact ⟨rfl,rfl⟩) : A := s
theorem ay {A : Prop} (s : A := by refine D ?_;refine cH ?_;exact ⟨rfl,rfl⟩) : A := s
theorem iK {A : Prop} (s : A := by refine dz ?_;exact ⟨rfl,rfl⟩) : A := s
theorem iL {A : Prop} (s : A := by refine D ?_;refine dz ?_;exact ⟨rfl,rfl⟩) : A := s
theorem nV {A : Prop} (s : A := by refine AF ?_;exact ⟨rfl,rfl⟩) : A := s
theorem sM {A : Prop} (s : A := by refine D ?_;refine AF ?_;exact ⟨rfl,rfl⟩) : A := s
theorem ei {A : Prop} (s : A := by refine Lt ?_;exact ⟨rfl,rfl⟩) : A := s
theorem kH {A : Prop} (s : A := by refine D ?_;refine Lt ?_;exact ⟨rfl,rfl⟩) : A := s
theorem ai {A : Prop} (s : A := by kernel_rfl) : A := s
theorem G {A : Prop} (s : A := by omega) : A := s
theorem ny {A B : Prop} (h : B) (s : Hid B -> A := by intro hQ;(repeat (first | refine GW.ret ?_ | refine iO ?_ | refine iN ?_ | refine ba ?_ | refine jG ?_));exact hQ.1) : A := s ⟨h⟩
theorem acv {A : Prop} (s : A := by first | rfl | assumption) : A := s
theorem jd {A : Prop} (s : A := by rintro k _ _ ⟨rfl,rfl,_⟩;exact ⟨rfl,rfl,rfl⟩) : A := s
theorem fL {A : Prop} (s : A := by exact ⟨_,_,Wk.aH ar,rfl,rfl⟩) : A := s
theorem kV {A : Prop} (s : A := by exact ⟨_,_,Wk.aH ar,rfl,rfl,rfl⟩) : A := s
theorem fE {A : Prop} (s : A := by refine D ?_;exact ⟨_,_,Wk.aH ar,rfl,rfl⟩) : A := s
theorem dK {A : Prop} (s : A := by exact ⟨rfl,rfl,rfl⟩) : A := s
theorem bx {A B : Prop} (h : B) (s : Hid B -> A := by intro hQ;refine ao ?_;refine D ?_;exact hQ.1) : A := s ⟨h⟩
theorem cw {A B : Prop} (h : B) (s : Hid B -> A := by intro hQ;refine D ?_;refine ky ?_;exact hQ.1) : A := s ⟨h⟩
theorem sL {A : Prop} (s : A := by exact ⟨⟨by omega,by omega⟩,by decide⟩) : A := s
theorem aU {A : Prop} (s : A := by decide) : A := s
def aD:Nat->Nat->Ot->Ot
 | _,0,r=>r
 | s,n+1,r=>.q s (aD (s+1) n r)
def abO:List Nat->Ot->Ot
 | [],r=>r
 | i::l,r=>.q i (abO l r)
theorem aL {P:Program} {m id:Nat} {ol:List Oper} {Q:dU} {fr:List GV} {Γ:List Ob} (ord:Ot) (h:GO P ol.toArray (Q .normal) ord [] fr Γ) (hm:P.follows .mixedOrders=true:=by kernel_rfl) (fx:(Region.noSelect ol.toArray&&(ord.len==ol.length)&&vb ol.toArray ord (Array.replicate ol.toArray.size false))=true:=by kernel_rfl):GW P m (.region id ol.toArray true) Q fr Γ:=GW.draw ord hm fx h
end Go.Xg
namespace Go.Xw
open Go.Proofs Tryz
open Go.Xg (ai)
instance:aJ prog 6:=⟨ai⟩
instance:aJ prog 7:=⟨ai⟩
instance:aJ prog 8:=⟨ai⟩
instance:aJ prog 9:=⟨ai⟩
instance:aJ prog 10:=⟨ai⟩
instance:aJ prog 11:=⟨ai⟩
instance:aJ prog 12:=⟨ai⟩
instance:aJ prog 17:=⟨ai⟩
instance:aJ prog 18:=⟨ai⟩
instance:aJ prog 19:=⟨ai⟩
instance:aJ prog 20:=⟨ai⟩
instance:aJ prog 21:=⟨ai⟩
instance:aJ prog 22:=⟨ai⟩
instance:aJ prog 23:=⟨ai⟩
instance:aJ prog 24:=⟨ai⟩
instance:aJ prog 25:=⟨ai⟩
instance:aJ prog 26:=⟨ai⟩
instance:aJ prog 27:=⟨ai⟩
instance:aJ prog 28:=⟨ai⟩
instance:aJ prog 29:=⟨ai⟩
instance:aJ prog 30:=⟨ai⟩
instance:aJ prog 31:=⟨ai⟩
instance:aJ prog 32:=⟨ai⟩
instance:aJ prog 33:=⟨ai⟩
instance:aJ prog 34:=⟨ai⟩
instance:aJ prog 35:=⟨ai⟩
instance:aJ prog 36:=⟨ai⟩
instance:aJ prog 37:=⟨ai⟩
instance:aJ prog 38:=⟨ai⟩
instance:aJ prog 39:=⟨ai⟩
instance:aJ prog 40:=⟨ai⟩
instance:aJ prog 41:=⟨ai⟩
instance:aJ prog 42:=⟨ai⟩
instance:aJ prog 43:=⟨ai⟩
instance:aJ prog 44:=⟨ai⟩
instance:aJ prog 45:=⟨ai⟩
instance:aJ prog 46:=⟨ai⟩
instance:aJ prog 47:=⟨ai⟩
instance:aJ prog 48:=⟨ai⟩
instance:aJ prog 49:=⟨ai⟩
instance:aJ prog 50:=⟨ai⟩
instance:aJ prog 51:=⟨ai⟩
instance:aJ prog 52:=⟨ai⟩
instance:aJ prog 53:=⟨ai⟩
instance:aJ prog 54:=⟨ai⟩
instance:aJ prog 55:=⟨ai⟩
instance:aJ prog 56:=⟨ai⟩
instance:aJ prog 57:=⟨ai⟩
instance:aJ prog 58:=⟨ai⟩
instance:aJ prog 62:=⟨ai⟩
instance:aJ prog 63:=⟨ai⟩
instance:aJ prog 66:=⟨ai⟩
instance:aJ prog 76:=⟨ai⟩
instance:aJ prog 77:=⟨ai⟩
instance:aJ prog 78:=⟨ai⟩
instance:aJ prog 79:=⟨ai⟩
instance:aJ prog 80:=⟨ai⟩
instance:aJ prog 81:=⟨ai⟩
instance:aJ prog 82:=⟨ai⟩
instance:aJ prog 83:=⟨ai⟩
instance:aJ prog 84:=⟨ai⟩
instance:aJ prog 85:=⟨ai⟩
instance:aJ prog 86:=⟨ai⟩
instance:aJ prog 87:=⟨ai⟩
instance:aJ prog 88:=⟨ai⟩
instance:aJ prog 89:=⟨ai⟩
instance:aJ prog 90:=⟨ai⟩
instance:aJ prog 91:=⟨ai⟩
instance:aJ prog 92:=⟨ai⟩
instance:aJ prog 93:=⟨ai⟩
instance:aJ prog 94:=⟨ai⟩
instance:aJ prog 95:=⟨ai⟩
instance:aJ prog 96:=⟨ai⟩
instance:aJ prog 97:=⟨ai⟩
instance:aJ prog 98:=⟨ai⟩
instance:aJ prog 99:=⟨ai⟩
instance:aJ prog 100:=⟨ai⟩
instance:aJ prog 101:=⟨ai⟩
instance:aJ prog 102:=⟨ai⟩
instance:aJ prog 103:=⟨ai⟩
instance:aJ prog 104:=⟨ai⟩
instance:aJ prog 105:=⟨ai⟩
instance:aJ prog 106:=⟨ai⟩
instance:aJ prog 107:=⟨ai⟩
instance:aJ prog 108:=⟨ai⟩
instance:aJ prog 109:=⟨ai⟩
instance:aJ prog 110:=⟨ai⟩
instance:aJ prog 111:=⟨ai⟩
instance:aJ prog 112:=⟨ai⟩
instance:aJ prog 113:=⟨ai⟩
instance:aJ prog 114:=⟨ai⟩
instance:aJ prog 115:=⟨ai⟩
instance:aJ prog 116:=⟨ai⟩
instance:aJ prog 117:=⟨ai⟩
instance:aJ prog 118:=⟨ai⟩
instance:aJ prog 119:=⟨ai⟩
instance:aJ prog 120:=⟨ai⟩
instance:aJ prog 121:=⟨ai⟩
instance:aJ prog 122:=⟨ai⟩
instance:aJ prog 123:=⟨ai⟩
instance:aJ prog 125:=⟨ai⟩
instance:aJ prog 126:=⟨ai⟩
instance:aJ prog 134:=⟨ai⟩
instance:aJ prog 135:=⟨ai⟩
instance:aJ prog 136:=⟨ai⟩
instance:aJ prog 137:=⟨ai⟩
instance:aJ prog 138:=⟨ai⟩
instance:aJ prog 139:=⟨ai⟩
instance:aJ prog 140:=⟨ai⟩
instance:aJ prog 141:=⟨ai⟩
instance:aJ prog 142:=⟨ai⟩
instance:aJ prog 143:=⟨ai⟩
instance:aJ prog 144:=⟨ai⟩
instance:aJ prog 145:=⟨ai⟩
instance:aJ prog 146:=⟨ai⟩
instance:aJ prog 147:=⟨ai⟩
instance:aJ prog 148:=⟨ai⟩
instance:aJ prog 149:=⟨ai⟩
instance:aJ prog 150:=⟨ai⟩
instance:aJ prog 151:=⟨ai⟩
instance:aJ prog 152:=⟨ai⟩
instance:aJ prog 153:=⟨ai⟩
instance:aJ prog 154:=⟨ai⟩
instance:aJ prog 155:=⟨ai⟩
instance:aJ prog 156:=⟨ai⟩
instance:aJ prog 157:=⟨ai⟩
instance:aJ prog 158:=⟨ai⟩
instance:aJ prog 159:=⟨ai⟩
instance:aJ prog 160:=⟨ai⟩
instance:aJ prog 161:=⟨ai⟩
instance:aJ prog 162:=⟨ai⟩
instance:aJ prog 163:=⟨ai⟩
instance:aJ prog 164:=⟨ai⟩
instance:aJ prog 165:=⟨ai⟩
instance:aJ prog 166:=⟨ai⟩
instance:aJ prog 167:=⟨ai⟩
instance:aJ prog 168:=⟨ai⟩
instance:aJ prog 169:=⟨ai⟩
instance:aJ prog 176:=⟨ai⟩
instance:aJ prog 177:=⟨ai⟩
instance:aJ prog 178:=⟨ai⟩
instance:aJ prog 179:=⟨ai⟩
instance:aJ prog 180:=⟨ai⟩
instance:aJ prog 181:=⟨ai⟩
instance:aJ prog 182:=⟨ai⟩
instance:aJ prog 183:=⟨ai⟩
instance:aJ prog 184:=⟨ai⟩
instance:aJ prog 185:=⟨ai⟩
instance:aJ prog 186:=⟨ai⟩
instance:aJ prog 187:=⟨ai⟩
instance:aJ prog 188:=⟨ai⟩
instance:aJ prog 189:=⟨ai⟩
instance:aJ prog 190:=⟨ai⟩
instance:aJ prog 191:=⟨ai⟩
instance:aJ prog 192:=⟨ai⟩
instance:aJ prog 194:=⟨ai⟩
instance:aJ prog 195:=⟨ai⟩
instance:aJ prog 196:=⟨ai⟩
instance:aJ prog 197:=⟨ai⟩
instance:aJ prog 198:=⟨ai⟩
instance:aJ prog 199:=⟨ai⟩
instance:aJ prog 200:=⟨ai⟩
instance:aJ prog 202:=⟨ai⟩
instance:aJ prog 204:=⟨ai⟩
instance:aJ prog 205:=⟨ai⟩
instance:aJ prog 206:=⟨ai⟩
instance:aJ prog 207:=⟨ai⟩
instance:aJ prog 208:=⟨ai⟩
instance:aJ prog 209:=⟨ai⟩
instance:aJ prog 210:=⟨ai⟩
instance:aJ prog 222:=⟨ai⟩
instance:aJ prog 223:=⟨ai⟩
instance:aJ prog 224:=⟨ai⟩
instance:aJ prog 225:=⟨ai⟩
instance:aJ prog 226:=⟨ai⟩
instance:aJ prog 227:=⟨ai⟩
instance:aJ prog 228:=⟨ai⟩
instance:aJ prog 229:=⟨ai⟩
instance:aJ prog 230:=⟨ai⟩
instance:aJ prog 231:=⟨ai⟩
instance:aJ prog 232:=⟨ai⟩
instance:aJ prog 233:=⟨ai⟩
instance:aJ prog 234:=⟨ai⟩
instance:aJ prog 235:=⟨ai⟩
instance:aJ prog 236:=⟨ai⟩
instance:aJ prog 238:=⟨ai⟩
instance:aJ prog 240:=⟨ai⟩
instance:aJ prog 245:=⟨ai⟩
instance:aJ prog 246:=⟨ai⟩
instance:aJ prog 247:=⟨ai⟩
instance:aJ prog 248:=⟨ai⟩
instance:aJ prog 255:=⟨ai⟩
instance:aJ prog 258:=⟨ai⟩
instance:aJ prog 259:=⟨ai⟩
instance:aJ prog 260:=⟨ai⟩
instance:aJ prog 261:=⟨ai⟩
instance:aJ prog 262:=⟨ai⟩
instance:aJ prog 263:=⟨ai⟩
instance:aJ prog 271:=⟨ai⟩
instance:aJ prog 272:=⟨ai⟩
instance:aJ prog 275:=⟨ai⟩
instance:aJ prog 276:=⟨ai⟩
instance:aJ prog 277:=⟨ai⟩
instance:aJ prog 282:=⟨ai⟩
instance:aJ prog 285:=⟨ai⟩
instance:aJ prog 286:=⟨ai⟩
instance:aJ prog 289:=⟨ai⟩
instance:aJ prog 290:=⟨ai⟩
instance:aJ prog 291:=⟨ai⟩
instance:Ty prog 3 false 1:=⟨ai,ai⟩
instance:rU prog 3 (.int .i64 (0)):=⟨ai⟩
instance:Go.Xg.LF prog 3 .i64:=⟨ai⟩
instance:Go.Xg.LF prog 5 .u8:=⟨ai⟩
instance:Ty prog 9 false 1:=⟨ai,ai⟩
instance:rb prog 9:=⟨ai⟩
instance:Ty prog 22 false 1:=⟨ai,ai⟩
instance:rU prog 22 (.slice none 0 0):=⟨ai⟩
instance:oB prog 22 9 1:=⟨ai,ai⟩
instance:pN prog 22 9 1 16:=⟨ai⟩
instance:q9 prog 22 9 1 [(.string ⟨#[]⟩)]:=⟨ai,ai,ai,rfl,by decide,fun _=>rfl⟩
instance:Ty prog 23 false 1:=⟨ai,ai⟩
instance:oB prog 23 101 2:=⟨ai,ai⟩
instance:Ty prog 24 false 1:=⟨ai,ai⟩
instance:oB prog 24 103 3:=⟨ai,ai⟩
instance:Ty prog 25 false 1:=⟨ai,ai⟩
instance:oB prog 25 105 5:=⟨ai,ai⟩
instance:Ty prog 27 true 4:=⟨ai,ai⟩
instance:ej prog 27 0 0 1 false:=⟨ai⟩
instance:ej prog 27 1 1 1 false:=⟨ai⟩
instance:ej prog 27 2 2 1 false:=⟨ai⟩
instance:ej prog 27 3 3 1 false:=⟨ai⟩
instance:Ty prog 29 false 1:=⟨ai,ai⟩
instance:oB prog 29 56 2:=⟨ai,ai⟩
instance:pN prog 29 56 2 24:=⟨ai⟩
instance:q9 prog 29 56 2 [(.string ⟨#[]⟩),(.int .i64 (0))]:=⟨ai,ai,ai,rfl,by decide,fun h=>by cases h⟩
instance:Ty prog 30 false 1:=⟨ai,ai⟩
instance:oB prog 30 58 3:=⟨ai,ai⟩
instance:pN prog 30 58 3 48:=⟨ai⟩
instance:q9 prog 30 58 3 [(.string ⟨#[]⟩),(.slice none 0 0),(.int .i64 (0))]:=⟨ai,ai,ai,rfl,by decide,fun h=>by cases h⟩
instance:Ty prog 31 false 1:=⟨ai,ai⟩
instance:oB prog 31 62 5:=⟨ai,ai⟩
instance:pN prog 31 62 5 64:=⟨ai⟩
instance:q9 prog 31 62 5 [(.int .i64 (0)),(.int .i64 (0)),(.int .i64 (0)),(.string ⟨#[]⟩),(.slice none 0 0)]:=⟨ai,ai,ai,rfl,by decide,fun h=>by cases h⟩
instance:Ty prog 33 true 4:=⟨ai,ai⟩
instance:rU prog 33 (.agg #[(.slice none 0 0),(.slice none 0 0),(.slice none 0 0),(.slice none 0 0)]):=⟨ai⟩
instance:ej prog 33 0 0 1 false:=⟨ai⟩
instance:ej prog 33 1 1 1 false:=⟨ai⟩
instance:ej prog 33 2 2 1 false:=⟨ai⟩
instance:ej prog 33 3 3 1 false:=⟨ai⟩
instance:vm prog 33 [(0,1),(1,1),(2,1),(3,1)] [(.slice none 0 0),(.slice none 0 0),(.slice none 0 0),(.slice none 0 0)]:=⟨ai,ai⟩
instance:Ty prog 56 true 2:=⟨ai,ai⟩
instance:rU prog 56 (.agg #[(.string ⟨#[]⟩),(.int .i64 (0))]):=⟨ai⟩
instance:ej prog 56 0 0 1 false:=⟨ai⟩
instance:ej prog 56 1 1 1 false:=⟨ai⟩
instance:vm prog 56 [(0,1),(1,1)] [(.string ⟨#[]⟩),(.int .i64 (0))]:=⟨ai,ai⟩
instance:Ty prog 58 true 3:=⟨ai,ai⟩
instance:rU prog 58 (.agg #[(.string ⟨#[]⟩),(.slice none 0 0),(.int .i64 (0))]):=⟨ai⟩
instance:ej prog 58 0 0 1 false:=⟨ai⟩
instance:ej prog 58 1 1 1 false:=⟨ai⟩
instance:ej prog 58 2 2 1 false:=⟨ai⟩
instance:vm prog 58 [(0,1),(1,1),(2,1)] [(.string ⟨#[]⟩),(.slice none 0 0),(.int .i64 (0))]:=⟨ai,ai⟩
instance:Ty prog 60 false 1:=⟨ai,ai⟩
instance:oB prog 60 3 1:=⟨ai,ai⟩
instance:pN prog 60 3 1 8:=⟨ai⟩
instance:q9 prog 60 3 1 [(.int .i64 (0))]:=⟨ai,ai,ai,rfl,by decide,fun _=>rfl⟩
instance:Ty prog 62 true 5:=⟨ai,ai⟩
instance:rU prog 62 (.agg #[(.int .i64 (0)),(.int .i64 (0)),(.int .i64 (0)),(.string ⟨#[]⟩),(.slice none 0 0)]):=⟨ai⟩
instance:ej prog 62 0 0 1 false:=⟨ai⟩
instance:ej prog 62 1 1 1 false:=⟨ai⟩
instance:ej prog 62 2 2 1 false:=⟨ai⟩
instance:ej prog 62 3 3 1 false:=⟨ai⟩
instance:ej prog 62 4 4 1 false:=⟨ai⟩
instance:vm prog 62 [(0,1),(1,1),(2,1),(3,1),(4,1)] [(.int .i64 (0)),(.int .i64 (0)),(.int .i64 (0)),(.string ⟨#[]⟩),(.slice none 0 0)]:=⟨ai,ai⟩
instance:Ty prog 63 false 1:=⟨ai,ai⟩
instance:oB prog 63 65 6:=⟨ai,ai⟩
instance:pN prog 63 65 6 88:=⟨ai⟩
instance:q9 prog 63 65 6 [(.int .i64 (0)),(.int .i64 (0)),(.int .i64 (0)),(.string ⟨#[]⟩),(.slice none 0 0),(.slice none 0 0)]:=⟨ai,ai,ai,rfl,by decide,fun h=>by cases h⟩
instance:Ty prog 65 true 6:=⟨ai,ai⟩
instance:rU prog 65 (.agg #[(.int .i64 (0)),(.int .i64 (0)),(.int .i64 (0)),(.string ⟨#[]⟩),(.slice none 0 0),(.slice none 0 0)]):=⟨ai⟩
instance:ej prog 65 0 0 5 true:=⟨ai⟩
instance:ej prog 65 1 5 1 false:=⟨ai⟩
instance:vm prog 65 [(0,5),(5,1)] [(.int .i64 (0)),(.int .i64 (0)),(.int .i64 (0)),(.string ⟨#[]⟩),(.slice none 0 0),(.slice none 0 0)]:=⟨ai,ai⟩
instance:Ty prog 76 false 1:=⟨ai,ai⟩
instance:Ty prog 89 false 1:=⟨ai,ai⟩
instance:oB prog 89 131 1:=⟨ai,ai⟩
instance:pN prog 89 131 1 8:=⟨ai⟩
instance:q9 prog 89 131 1 [(.pointer none)]:=⟨ai,ai,ai,rfl,by decide,fun _=>rfl⟩
instance:Ty prog 101 true 2:=⟨ai,ai⟩
instance:ej prog 101 0 0 1 false:=⟨ai⟩
instance:ej prog 101 1 1 1 false:=⟨ai⟩
instance:Ty prog 103 true 3:=⟨ai,ai⟩
instance:ej prog 103 0 0 1 false:=⟨ai⟩
instance:ej prog 103 1 1 1 false:=⟨ai⟩
instance:ej prog 103 2 2 1 false:=⟨ai⟩
instance:Ty prog 105 true 5:=⟨ai,ai⟩
instance:ej prog 105 0 0 1 false:=⟨ai⟩
instance:ej prog 105 1 1 1 false:=⟨ai⟩
instance:ej prog 105 2 2 1 false:=⟨ai⟩
instance:ej prog 105 3 3 1 false:=⟨ai⟩
instance:ej prog 105 4 4 1 false:=⟨ai⟩
instance:Ty prog 118 false 1:=⟨ai,ai⟩
instance:rU prog 118 .nilFunc:=⟨ai⟩
instance:ej prog 126 0 0 4 true:=⟨ai⟩
instance:ej prog 126 1 4 1 false:=⟨ai⟩
instance:ej prog 126 2 5 1 false:=⟨ai⟩
instance:ej prog 126 3 6 1 false:=⟨ai⟩
instance:vm prog 126 [(0,4),(4,1),(5,1),(6,1)] [(.slice none 0 0),(.slice none 0 0),(.slice none 0 0),(.slice none 0 0),(.slice none 0 0),(.int .i64 (0)),(.int .i64 (0))]:=⟨ai,ai⟩
instance:Ty prog 131 false 1:=⟨ai,ai⟩
instance:Ty prog 134 false 1:=⟨ai,ai⟩
instance:Ty prog 135 false 1:=⟨ai,ai⟩
instance:Ty prog 136 false 1:=⟨ai,ai⟩
instance:oB prog 136 183 4:=⟨ai,ai⟩
instance:pN prog 136 183 4 40:=⟨ai⟩
instance:q9 prog 136 183 4 [(.int .i64 (0)),(.int .i64 (0)),(.string ⟨#[]⟩),(.int .i64 (0))]:=⟨ai,ai,ai,rfl,by decide,fun h=>by cases h⟩
instance:Ty prog 157 false 1:=⟨ai,ai⟩
instance:Go.Xg.M6 prog 157:=Go.Xg.M6.mk' (e:=5) (ai) (ai)
instance:oB prog 157 5 1:=⟨ai,ai⟩
instance:q9 prog 157 5 1 [(.int .u8 (0))]:=⟨ai,ai,ai,rfl,by decide,fun _=>rfl⟩
instance:ej prog 164 0 0 1 false:=⟨ai⟩
instance:ej prog 164 1 1 1 false:=⟨ai⟩
instance:ej prog 164 2 2 1 false:=⟨ai⟩
instance:ej prog 164 3 3 1 false:=⟨ai⟩
instance:ej prog 164 4 4 1 false:=⟨ai⟩
instance:vm prog 164 [(0,1),(1,1),(2,1),(3,1),(4,1)] [(.slice none 0 0),(.int .i64 (0)),(.int .i64 (0)),(.int .i64 (0)),(.int .i64 (0))]:=⟨ai,ai⟩
instance:ej prog 170 0 0 5 true:=⟨ai⟩
instance:ej prog 170 1 5 1 false:=⟨ai⟩
instance:vm prog 170 [(0,5),(5,1)] [(.int .i64 (0)),(.int .i64 (0)),(.int .i64 (0)),(.string ⟨#[]⟩),(.slice none 0 0),(.slice none 0 0)]:=⟨ai,ai⟩
instance:Ty prog 172 true 2:=⟨ai,ai⟩
instance:rU prog 172 (.agg #[.nilFunc,.nilFunc]):=⟨ai⟩
instance:ej prog 172 0 0 1 false:=⟨ai⟩
instance:ej prog 172 1 1 1 false:=⟨ai⟩
instance:vm prog 172 [(0,1),(1,1)] [.nilFunc,.nilFunc]:=⟨ai,ai⟩
instance:Ty prog 183 true 4:=⟨ai,ai⟩
instance:rU prog 183 (.agg #[(.int .i64 (0)),(.int .i64 (0)),(.string ⟨#[]⟩),(.int .i64 (0))]):=⟨ai⟩
instance:ej prog 183 0 0 1 false:=⟨ai⟩
instance:ej prog 183 1 1 1 false:=⟨ai⟩
instance:ej prog 183 2 2 1 false:=⟨ai⟩
instance:ej prog 183 3 3 1 false:=⟨ai⟩
instance:vm prog 183 [(0,1),(1,1),(2,1),(3,1)] [(.int .i64 (0)),(.int .i64 (0)),(.string ⟨#[]⟩),(.int .i64 (0))]:=⟨ai,ai⟩
instance:ej prog 188 0 0 1 false:=⟨ai⟩
instance:ej prog 188 1 1 1 false:=⟨ai⟩
instance:ej prog 188 2 2 1 false:=⟨ai⟩
instance:ej prog 188 3 3 1 false:=⟨ai⟩
instance:ej prog 188 4 4 1 false:=⟨ai⟩
instance:ej prog 188 5 5 1 false:=⟨ai⟩
instance:ej prog 188 6 6 4 true:=⟨ai⟩
instance:vm prog 188 [(0,1),(1,1),(2,1),(3,1),(4,1),(5,1),(6,4)] [(.slice none 0 0),(.int .i64 (0)),(.int .i64 (0)),(.int .i64 (0)),(.int .i64 (0)),(.slice none 0 0),(.slice none 0 0),(.slice none 0 0),(.slice none 0 0),(.slice none 0 0)]:=⟨ai,ai⟩
instance:Ty prog 202 false 1:=⟨ai,ai⟩
instance:rU prog 204 (.agg #[(.pointer none),(.slice none 0 0)]):=⟨ai⟩
instance:ej prog 204 0 0 1 false:=⟨ai⟩
instance:ej prog 204 1 1 1 false:=⟨ai⟩
instance:oB prog 211 22 1:=⟨ai,ai⟩
instance:q9 prog 211 22 1 [(.slice none 0 0)]:=⟨ai,ai,ai,rfl,by decide,fun _=>rfl⟩
end Go.Xw
set_option maxHeartbeats 1000000
namespace Go.Xg
open GV (U)
open Go.RowKit Go.Xw Go.Proofs Tryz
open Go.Xp (Tok Nd T bH one levels)
open Go.Sp
attribute [local irreducible] GW GL GO YG GC GA be bg
def dQ (t:Tok):List GV:=[.v (ii t.kind),.v (ii t.n),.v (sv t.s),.v (ii t.at_)]
theorem QW (t:Tok):GF prog 233 [.agg (dQ t)] [] (.v (sv (bH t))) []:=by
 refine ah func233 ntmps233 ?_;refine GW.cond rfl (fun h=>?_) (fun h=>?_)
 ·refine D ?_;refine cH ?_
  have h:t.kind≠3:=by simpa using h
  rw [bH,L h];exact ⟨rfl,rfl⟩
 ·refine D ?_;refine cH ?_
  have h:t.kind=3:=by simpa using h
  rw [bH,ab h];exact ⟨rfl,rfl⟩
abbrev jP (l:List Tok):GV:=.sl 4 (l.map dQ)
abbrev cP (p:RS):Ob:=.box 164 [jP p.l,.v (ii p.i),.v (ii p.e),.v (ii p.code),.v (ii p.at_)]
theorem lS {l:List Tok} {i:Nat} {t:Tok} (h:l[i]?=some t):(l.map dQ)[i]?=some (dQ t):=by rw [aP,h];rfl
theorem mg (p:RS) (hp:p.ok):GF prog 189 [.loc 0 0] [cP p] (.v (ii p.place)) [cP p]:=by
 obtain ⟨l8,ef⟩:=hp
 cases ht:p.l[p.i]? with
 | some t =>
  have hr:=lS ht;have ak:p.i < p.l.length:=(bo ht).1
  have hd:decide ((p.i:Int) < ((p.l.map dQ).length:Int))=true:=by simpa using ak
  refine ah func189 ntmps189 ?_;refine aL (aD 0 10 .nil) ?_;refine bx ?_;refine aL (aD 0 12 .nil) ?_;refine bx ?_;refine cH ?_;rw [RS.place,ht];exact ⟨rfl,rfl⟩
 | none =>
  have ak:p.l.length<=p.i:=qG ht
  have hd:decide ((p.i:Int) < ((p.l.map dQ).length:Int))=false:=by simpa using ak
  refine ah func189 ntmps189 ?_;refine aL (aD 0 10 .nil) ?_;refine bx ?_;refine cH ?_;rw [RS.place,ht];exact ⟨rfl,rfl⟩
theorem dN (p:RS) (k:Nat) (hp:p.ok) (hk:k<=1):GF prog 191 [.loc 0 0,.v (ii k)] [cP p] (.v (sv (p.sign k))) [cP p]:=by
 obtain ⟨l8,ef⟩:=hp
 by_cases hc:p.code=0
 ·have dY:(p.code != 0)=false:=by simpa using hc
  cases ht:p.l[p.i+k]? with
  | some t =>
   have hr:=lS ht;have ak:p.i+k < p.l.length:=(bo ht).1
   have hd:decide (((p.l.map dQ).length:Int)<=((p.i+k:Nat):Int))=false:=by simp;omega
   refine ah func191 ntmps191 ?_;refine aL (aD 0 19 .nil) ?_;refine bx ?_;refine aL (aD 0 12 (.a 12 (.q 13 .nil))) ?_;refine ao ?_;refine aI [] (QW t) ?_;refine D ?_;refine cH ?_;rw [RS.sign,ab hc,ht];exact ⟨rfl,rfl⟩
  | none =>
   have ak:p.l.length<=p.i+k:=qG ht
   have hd:decide (((p.l.map dQ).length:Int)<=((p.i+k:Nat):Int))=true:=by simp;omega
   refine ah func191 ntmps191 ?_;refine aL (aD 0 19 .nil) ?_;refine bx ?_;refine cH ?_;rw [RS.sign,ab hc,ht];exact ⟨rfl,rfl⟩
 ·have dY:(p.code != 0)=true:=by simpa using hc
  refine ah func191 ntmps191 ?_;refine aL (aD 0 19 .nil) ?_;refine bx ?_;refine cH ?_;rw [RS.sign,L hc];exact ⟨rfl,rfl⟩
theorem nF (p:RS) (c a:Int):GF prog 232 [.loc 0 0,.v (ii c),.v (ii a)] [cP p] (.tup []) [cP (p.fail c a)]:=by
 refine ah func232 ntmps232 ?_;refine GW.cond rfl (fun h=>?_) (fun h=>?_)
 ·refine D ?_;refine dz ?_
  have h:p.code=0:=by simpa using h
  rw [RS.fail,ab h];exact ⟨rfl,rfl⟩
 ·refine D ?_;refine dz ?_
  have h:¬ p.code=0:=by simpa using h
  rw [RS.fail,L h];exact ⟨rfl,rfl⟩
theorem dM (p:RS) (s:ae) (hp:p.ok) (hs:s≠[]):GF prog 190 [.loc 0 0,.v (sv s)] [cP p] (.tup []) [cP (p.aW s)]:=by
 refine ah func190 ntmps190 ?_;refine fR [0] (dN p 0 hp aU) ?_
 by_cases h:p.sign 0=s
 ·have h':(!(p.sign 0==s))=false:=by simp [h]
  have hl:=(gR h hs).1;obtain ⟨l8,ef⟩:=hp;refine D ?_;refine dz ?_;rw [RS.aW,ab h];exact ⟨rfl,rfl⟩
 ·have h':(!(p.sign 0==s))=true:=by simpa using h
  refine D ?_;refine V [0] (mg p hp) ?_;refine V [0] (nF p 7 p.place) ?_;refine dz ?_;rw [RS.aW,L h];exact ⟨rfl,rfl⟩
theorem vK (p:RS) (d:Nat) (hp:p.ok):GF prog 187 [.loc 0 0,.v (ii d)] [cP p] (.tup []) [cP (p.deep d)]:=by
 by_cases h:d > 60
 ·have h':decide ((60:Int) < (d:Int))=true:=by simp;omega
  refine ah func187 ntmps187 ?_;refine V [0] (mg p hp) ?_;refine V [0] (nF p 9 p.place) ?_;refine dz ?_;rw [RS.deep,ab h];exact ⟨rfl,rfl⟩
 ·have h':decide ((60:Int) < (d:Int))=false:=by simp;omega
  refine ah func187 ntmps187 ?_;refine dz ?_;rw [RS.deep,L h];exact ⟨rfl,rfl⟩
theorem zH (p:RS) (hp:p.ok):GF prog 234 [.loc 0 0] [cP p] (.v (sv p.name.1)) [cP p.name.2]:=by
 obtain ⟨l8,ef⟩:=id hp
 by_cases hc:p.code=0
 ·have dY:(p.code != 0)=false:=by simpa using hc
  cases ht:p.l[p.i]? with
  | some t =>
   have hr:=lS ht;have ak:p.i < p.l.length:=(bo ht).1
   have hd:decide (((p.l.map dQ).length:Int)<=(p.i:Int))=false:=by simp;omega
   by_cases hk:t.kind=2
   ·have mW:(t.kind != 2)=false:=by simpa using hk
    by_cases hs:t.s.length > 12
    ·have pR:decide ((12:Int) < (t.s.length:Int))=true:=by simp;omega
     refine ah func234 ntmps234 ?_;refine aL (aD 0 24 .nil) ?_;refine bx ?_;refine aL (aD 0 10 (.a 10 (.a 11 .nil))) ?_;refine bx ?_;refine V [0] (nF p 8 t.at_) ?_;refine cH ?_;rw [RS.name,ab hc,ht];simp only [ab hk,ab hs];exact ⟨rfl,rfl⟩
    ·have pR:decide ((12:Int) < (t.s.length:Int))=false:=by simp;omega
     refine ah func234 ntmps234 ?_;refine aL (aD 0 24 .nil) ?_;refine bx ?_;refine aL (aD 0 10 (.a 10 (.a 11 .nil))) ?_;refine bx ?_;refine cH ?_;rw [RS.name,ab hc,ht];simp only [ab hk,L hs];exact ⟨rfl,rfl⟩
   ·have mW:(t.kind != 2)=true:=by simpa using hk
    refine ah func234 ntmps234 ?_;refine aL (aD 0 24 .nil) ?_;refine bx ?_;refine V [0] (mg p hp) ?_;refine V [0] (nF p 7 p.place) ?_;refine cH ?_;rw [RS.name,ab hc,ht];simp only [L hk];exact ⟨rfl,rfl⟩
  | none =>
   have ak:p.l.length<=p.i:=qG ht
   have hd:decide (((p.l.map dQ).length:Int)<=(p.i:Int))=true:=by simp;omega
   refine ah func234 ntmps234 ?_;refine aL (aD 0 24 .nil) ?_;refine bx ?_;refine V [0] (mg p hp) ?_;refine V [0] (nF p 7 p.place) ?_;refine cH ?_;rw [RS.name,ab hc,ht];exact ⟨rfl,rfl⟩
 ·have dY:(p.code != 0)=true:=by simpa using hc
  refine ah func234 ntmps234 ?_;refine cH ?_;rw [RS.name,L hc];exact ⟨rfl,rfl⟩
abbrev ints (l:List Int):GV:=.sl 1 (l.map fun i=>[.v (ii i)])
abbrev strs (l:List ae):GV:=.sl 1 (l.map fun s=>[.v (sv s)])
mutual
def Wd:T->List GV
 | .mk n k=>[.v (ii n.kind),.v (ii n.at_),.v (ii n.n),.v (sv n.s),ints n.kids,.sl 6 (aQ k)]
def aQ:List T->List (List GV)
 | []=>[]
 | t::r=>Wd t::aQ r
end
abbrev cT (t:T):List GV:=[.v (ii t.n.kind),.v (ii t.n.at_),.v (ii t.n.n),.v (sv t.n.s),ints t.n.kids,.sl 6 (aQ t.kids)]
theorem sn (t:T):Wd t=cT t:=by
 cases t;rfl
theorem iH (k a:Int) (s:ae) (l:List T) (rows:List (List GV)) (h:aQ l=rows):GF prog 188 [.v (ii k),.v (ii a),.v (sv s),.sl 6 rows] [] (.agg (cT (one k a s l))) []:=by
 subst h;refine ah func188 ntmps188 ?_;refine sO ?_;exact ⟨_,gS,rfl,rfl⟩
theorem kY:GF prog 259 [] [] (.sl 1 (levels.map fun l=>[strs l])) []:=by
 refine ah func259 ntmps259 ?_
 iterate 10 (refine cD ?_)
 exact ay
theorem F2 {xs:List ae} {k:Nat} {s x:ae} (h:xs[k]?=some x):(xs.take (k+1)).contains s=((xs.take k).contains s || (x==s)):=by
 rw [cq,h,List.contains_append];show (_ || [x].contains s)=_
 congr 1
 rw [List.contains_cons,List.contains_nil,Bool.or_false];exact Bool.beq_comm
theorem iG (xs:List ae) (s:ae) (hl:xs.length<=1099511627776):GF prog 25 [strs xs,.v (sv s)] [] (.v (.bool (xs.contains s))) []:=by
 refine ah func25 ntmps25 ?_;refine GW.range (xs.map fun s=>[GV.v (sv s)]).length (fun k fr Γ=>fr=[strs xs,.v (sv s),U,U,U,U,U,strs xs,.v (ii ((xs.map fun s=>[GV.v (sv s)]).length:Int)),.v (ii k),U,U,U,U,U,U,U]/\Γ=[]/\(xs.take k).contains s=false) ?_ (by simpa using hl) ?_ ?_ ?_
 ·exact kV
 ·exact jd
 ·rintro k _ _ ak ⟨rfl,rfl,hc⟩
  have ak:k < xs.length:=by simpa using ak
  have hx:xs[k]?=some xs[k]:=by simp [ak]
  have hr:(xs.map fun s=>[GV.v (sv s)])[k]?=some [.v (sv xs[k])]:=by simp [ak]
  have gL:=F2 (s:=s) hx;refine D ?_;refine GW.cond rfl (fun I=>?_) (fun I=>?_)
  ·refine D ?_;refine cH ?_
   have h3:xs[k]=s:=by simpa using I
   have:s∈xs:=by rw [<-h3];exact getElem_mem _
   refine ⟨?_,rfl⟩;show GV.v (.bool true)=_;rw [ij.2 this]
  ·refine D ?_;exact ⟨rfl,rfl,_,_,Wk.aH ar,rfl,rfl,by rw [gL,hc,I];rfl⟩
 ·rintro _ _ ⟨rfl,rfl,hc⟩;refine D ?_;refine cH ?_
  have hc:xs.contains s=false:=by simpa using hc
  refine ⟨?_,rfl⟩;show GV.v (.bool false)=_;rw [hc]
end Go.Xg
namespace Go.Xg
open Go.RowKit Go.Xw
section
variable {P:Program} {m:Nat} {Q:dU} {fr:List GV} {Γ:List Ob}
theorem GW.TX {c y:Code} {B:Nat} (K:List GV->List Ob->Prop) (F:GW P m c (bg B (be (AO m K) Q)) fr Γ) (I:∀ fr Γ,K fr Γ->GW P m y Q fr Γ):GW P m c (bg B (be (GW P m y Q) Q)) fr Γ:=by
 refine F.mono fun e fr Γ hq=>?_
 have key:∀ fr Γ,AO m K fr Γ->GW P m y Q fr Γ:=fun fr Γ ⟨cJ,aR,hw,hk⟩=>GW.wk hw (I _ _ hk)
 cases e with
 | normal=>exact key _ _ hq
 | exit n =>
  simp only [bg] at hq |-;split
  ·rename_i hn;rw [ab hn] at hq;exact key _ _ hq
  ·rename_i hn;rw [L hn] at hq;exact hq
 | _=>exact hq
end
section
variable {P:Program} {fn:Func} {m:Nat} {R:GV->List Ob->Prop} {fr:List GV} {Γ:List Ob} {e:Exit}
theorem Tm {n:Nat} {t u:Tmp} {T:TypeId} {k:Nat} [hT:Ty P T true k] {i:Nat} {E:TypeId} {cs:List GV} {g:GV} (hr:fn.results=#[.cell t T,.tmp u]) (he:e=.normal\/e=.ret) (hg:cz fr t=.loc i 0) (bM:Γ[i]?=some (.box E cs)) (hk:cs.length=k) (fU:cz fr u=g)
  (hm:m<=n) (hl:zP n (Γ.take n)=true) (ek:(GV.tup [.agg cs,g]).lt n=true) (h:R (.tup [.agg cs,g]) (Γ.take n)):rl P fn m R e fr Γ :=
 ⟨he,fun B K β w l hB hI hF=>by
  obtain ⟨b,vs,F,I,h3,h4⟩:=hI.ob i _ bM
  have hp:nth l t=.pointer (some ⟨b,0,none⟩):=by
   have:=hF.nth t;rw [hg] at this;generalize nth l t=v at this
   cases this with
   | loc _ _ b' bD=>rw [F] at bD;cases bD;rfl
  have lG:l.toArray.getD t undef=.pointer (some ⟨b,0,none⟩):=by rw [ke,hp]
  have CU:=nj (P:=P) (w:=w) (t:=T) (b:=b) (o:=0) (vs:=vs) (k:=k) (by rw [h3.1,hk]) (fun j v hj=>by
   rw [cI,cell_of_row w b j _ E (0,0) I];simpa using hj)
  have xX:l[t]?.getD undef=.pointer (some ⟨b,0,none⟩):=by simpa using lG
  refine ⟨.tuple #[.agg vs.toArray,nth l u],K,jo (below n) β,.tup [.agg cs,g],Γ.take n,?_,hI.cut G hl,?_,h⟩
  ·rw [<-ke l u];simp [results,hr,xX,asAddr,CU]
  ·refine Rel.res ?_ ek;subst fU;have hc:bq K β [.agg vs.toArray,nth l u] [.agg cs,cz fr u]:=.cons (.agg vs cs h3.1 h3.2) (.cons (hF.nth u) .nil)
   exact .tup _ _ hc.1 hc.2⟩
theorem Oq {n:Nat} {t u s:Tmp} {T:TypeId} {k:Nat} [hT:Ty P T true k] {i:Nat} {E:TypeId} {cs:List GV} {g g':GV} (hr:fn.results=#[.cell t T,.tmp u,.tmp s]) (he:e=.normal\/e=.ret) (hg:cz fr t=.loc i 0) (bM:Γ[i]?=some (.box E cs)) (hk:cs.length=k) (fU:cz fr u=g) (Xf:cz fr s=g')
  (hm:m<=n) (hl:zP n (Γ.take n)=true) (ek:(GV.tup [.agg cs,g,g']).lt n=true) (h:R (.tup [.agg cs,g,g']) (Γ.take n)):rl P fn m R e fr Γ :=
 ⟨he,fun B K β w l hB hI hF=>by
  obtain ⟨b,vs,F,I,h3,h4⟩:=hI.ob i _ bM
  have hp:nth l t=.pointer (some ⟨b,0,none⟩):=by
   have:=hF.nth t;rw [hg] at this;generalize nth l t=v at this
   cases this with
   | loc _ _ b' bD=>rw [F] at bD;cases bD;rfl
  have lG:l.toArray.getD t undef=.pointer (some ⟨b,0,none⟩):=by rw [ke,hp]
  have CU:=nj (P:=P) (w:=w) (t:=T) (b:=b) (o:=0) (vs:=vs) (k:=k) (by rw [h3.1,hk]) (fun j v hj=>by
   rw [cI,cell_of_row w b j _ E (0,0) I];simpa using hj)
  have xX:l[t]?.getD undef=.pointer (some ⟨b,0,none⟩):=by simpa using lG
  refine ⟨.tuple #[.agg vs.toArray,nth l u,nth l s],K,jo (below n) β,.tup [.agg cs,g,g'],Γ.take n,?_,hI.cut G hl,?_,h⟩
  ·rw [<-ke l u,<-ke l s];simp [results,hr,xX,asAddr,CU]
  ·refine Rel.res ?_ ek;subst fU Xf;have hc:bq K β [.agg vs.toArray,nth l u,nth l s] [.agg cs,cz fr u,cz fr s]:=.cons (.agg vs cs h3.1 h3.2) (.cons (hF.nth u) (.cons (hF.nth s) .nil))
   exact .tup _ _ hc.1 hc.2⟩
end
end Go.Xg
namespace Go.Xg
open GV (U)
open Go.RowKit Go.Xw Go.Proofs Tryz
open Go.Xp (Tok Nd T bH one levels)
open Go.Sp
attribute [local irreducible] GW GL GO YG GC GA be bg
abbrev EP (c:UInt8):GV:=.v (.int .u8 (c.toNat:Int))
theorem x9 (c:UInt8):GF prog 136 [EP c] [] (.v (.bool (small c))) []:=by
 unfold small;refine cL func136 ntmps136 ?_
 cases h:decide ((97:Int)<=(c.toNat:Int))
 all_goals
  exact ay
theorem x8 (c:UInt8):GF prog 176 [EP c] [] (.v (.bool (eV c))) []:=by
 unfold eV;refine cL func176 ntmps176 ?_
 cases h:decide ((48:Int)<=(c.toNat:Int))
 all_goals
  exact ay
theorem Fs (c:UInt8):GF prog 135 [EP c] [] (.v (.bool (dR c))) []:=by
 unfold dR;have hs:=x9 c;have hd:=x8 c;generalize small c=b1 at *;generalize eV c=b2 at *;refine ah func135 ntmps135 ?_;refine fR [] hs ?_
 cases b1 with
 | true =>
  exact ay
 | false =>
  cases F:decide ((65:Int)<=(c.toNat:Int)) with
  | true =>
   cases I:decide ((c.toNat:Int)<=90) with
   | true =>
    exact ay
   | false =>
    refine D ?_;refine fR [] hd ?_
    cases b2 with
    | true =>
     exact ay
    | false =>
     exact ay
  | false =>
   refine D ?_;refine fR [] hd ?_
   cases b2 with
   | true =>
    exact ay
   | false =>
    exact ay
theorem ql (s t:ae) (a:Nat) (hs:s.length<=1152921504606846976) (ht:t.length<=1152921504606846976) (ha:a<=1152921504606846976) :
  GF prog 229 [.v (sv s),.v (ii (a:Nat)),.v (sv t)] [] (.v (.bool (bS s a t))) []:=by
 by_cases h:a+t.length<=s.length
 ·have h':decide (((a+t.length:Nat):Int)<=(s.length:Int))=true:=by simpa using by omega
  refine ah func229 ntmps229 ?_;refine cH ?_;unfold bS;rw [decide_eq_true h];exact ⟨rfl,rfl⟩
 ·have h':decide (((a+t.length:Nat):Int)<=(s.length:Int))=false:=by simpa using by omega
  refine ah func229 ntmps229 ?_;refine cH ?_;unfold bS;rw [decide_eq_false h];exact ⟨rfl,rfl⟩
theorem Qb (s:ae) (a:Nat) (hs:s.length<=1099511627776) (ha:a<=s.length) :
  GF prog 185 [.v (sv s),.v (ii (a:Nat))] [] (.tup [.v (ii ((skip s (s.length+1) a).1:Nat)),.v (ii (skip s (s.length+1) a).2)]) []:=by
 generalize hR:skip s (s.length+1) a=R;refine ah func185 ntmps185 ?_;refine GW.loop (fun x:Nat × Nat=>x.1) (fun x fr Γ=>fr=[.v (sv s),.v (ii (x.2:Nat)),U,U,U,U,U,U,U,U,U,U,U,U,U,U,U,U,U,U,U,U,U,U,U,U,U,U,U,U,U,U,U,U,U,U,U,U,U,U,U,U,U,U,U,U,U,U,U,U,U,U,U,U,U,U,U,U,U,U,U,U,U]/\Γ=[]/\x.2<=s.length/\s.length < x.1+x.2/\skip s x.1 x.2=R) (s.length+1,a) ?_ ?_
 ·exact ⟨_,_,Wk.aH ar,rfl,rfl,ha,by simp;omega,hR⟩
 ·rintro ⟨f,a⟩ _ _ ⟨rfl,rfl,ha,hf,h⟩;simp only at ha hf h
  cases f with
  | zero=>omega
  | succ f =>
  rw [skip] at h
  cases hc:s[a]? with
  | none =>
   rw [hc] at h;simp only at h;subst h;have mV:s.length<=a:=qG hc
   have hd:decide ((a:Int) < (s.length:Int))=false:=by simpa using mV
   refine cw ?_;exact sM
  | some c =>
   rw [hc] at h;simp only at h;have ak:a < s.length:=(bo hc).1
   have hd:decide ((a:Int) < (s.length:Int))=true:=by simpa using ak
   have hb:eE c=(((c.toNat:Int)==32) || ((c.toNat:Int)==9) || ((c.toNat:Int)==10) || ((c.toNat:Int)==13)):=rfl
   by_cases oF:eE c=true
   ·rw [ab oF] at h;rw [hb] at oF;have Hx:((c.toNat:Int)==32)=true\/(((c.toNat:Int)==32)=false/\((c.toNat:Int)==9)=true)\/(((c.toNat:Int)==32)=false/\((c.toNat:Int)==9)=false/\((c.toNat:Int)==10)=true) \/
      (((c.toNat:Int)==32)=false/\((c.toNat:Int)==9)=false/\((c.toNat:Int)==10)=false/\((c.toNat:Int)==13)=true):=by
     generalize ((c.toNat:Int)==32)=b1 at *;generalize ((c.toNat:Int)==9)=b2 at *;generalize ((c.toNat:Int)==10)=b3 at *;generalize ((c.toNat:Int)==13)=b4 at *;clear hb
     revert oF;cases b1 <;> cases b2 <;> cases b3 <;> cases b4 <;> simp
    clear hb oF
    rcases Hx with k1 | ⟨k1,k2⟩ | ⟨k1,k2,k3⟩ | ⟨k1,k2,k3,k4⟩
    all_goals
     refine cw ?_;exact ⟨(f,a+1),⟨_,_,Wk.aH ar,rfl,rfl,by simp only;omega,by simp only;omega,h⟩,by simp⟩
   ·rw [L oF] at h;rw [hb] at oF
    have Hx:((c.toNat:Int)==32)=false/\((c.toNat:Int)==9)=false/\((c.toNat:Int)==10)=false/\((c.toNat:Int)==13)=false:=by
     generalize ((c.toNat:Int)==32)=b1 at *;generalize ((c.toNat:Int)==9)=b2 at *;generalize ((c.toNat:Int)==10)=b3 at *;generalize ((c.toNat:Int)==13)=b4 at *;clear hb
     revert oF;cases b1 <;> cases b2 <;> cases b3 <;> cases b4 <;> simp
    clear hb oF;obtain ⟨k1,k2,k3,k4⟩:=Hx
    by_cases qe:bS s a [47,42]=true
    ·rw [ab qe] at h;have oF:=kQ qe;have oF:a+2<=s.length:=oF
     have vA:(!bS s a [47,42])=false:=by rw [qe];rfl
     try simp only at h
     generalize he:fQ s s.length (a+2)=e at h;refine D ?_;refine V [] (ql s [47,42] a G aU G) ?_;have OI:=sW s s.length (a+2) G G;have OJ:=uc s s.length (a+2) G;rw [he] at OI OJ;refine GW.TX (fun fr Γ=>fr=[.v (sv s),.v (ii (a:Nat)),U,U,U,U,.v (ii (e:Nat)),U,U,U,U,U,U,U,U,U,U,U,U,U,U,U,U,U,U,U,U,U,U,U,U,U,U,U,U,U,U,U,U,U,U,U,U,U,U,U,U,U,U,U,U,U,U,U,U,U,U,U,U,U,U,U,U]/\Γ=[]) ?_ ?_
     ·refine GW.loop (fun x:Nat × Nat=>x.1) (fun x fr Γ=>fr=[.v (sv s),.v (ii (a:Nat)),U,U,U,U,.v (ii (x.2:Nat)),U,U,U,U,U,U,U,U,U,U,U,U,U,U,U,U,U,U,U,U,U,U,U,U,U,U,U,U,U,U,U,U,U,U,U,U,U,U,U,U,U,U,U,U,U,U,U,U,U,U,U,U,U,U,U,U]/\Γ=[]/\x.2<=s.length/\fQ s x.1 x.2=e) (s.length,a+2) ?_ ?_
      ·exact ⟨_,_,Wk.aH ar,rfl,rfl,by simp only;omega,he⟩
      ·rintro ⟨g,e'⟩ _ _ ⟨rfl,rfl,hle,uQ⟩;simp only at hle uQ
       by_cases hstop:e' < s.length
       ·have dZ:decide ((e':Int) < (s.length:Int))=true:=by simpa using hstop
        cases pP:bS s e' [42,47] with
        | true =>
         have aaS:(!bS s e' [42,47])=false:=by rw [pP];rfl
         have wT:e'=e:=by
          cases g with
          | zero=>exact uQ
          | succ g=>rw [fQ,L (by rw [pP];simp)] at uQ;exact uQ
         subst wT;refine D ?_;refine V [] (ql s [42,47] e' G aU G) ?_;refine ky ?_;exact fL
        | false =>
         have aaS:(!bS s e' [42,47])=true:=by rw [pP];rfl
         cases g with
         | zero=>exact absurd ⟨by rw [<-uQ];exact hstop,by rw [<-uQ];exact pP⟩ OI
         | succ g =>
          rw [fQ,ab ⟨hstop,pP⟩] at uQ;refine D ?_;refine V [] (ql s [42,47] e' G aU G) ?_;exact ⟨(g,e'+1),⟨_,_,Wk.aH ar,rfl,rfl,hstop,uQ⟩,by simp⟩
       ·have dZ:decide ((e':Int) < (s.length:Int))=false:=by simp;omega
        have wT:e'=e:=by
         cases g with
         | zero=>exact uQ
         | succ g=>rw [fQ,L (fun hh=>hstop hh.1)] at uQ;exact uQ
        subst wT;refine cw ?_;exact fL
     ·rintro _ _ ⟨rfl,rfl⟩
      by_cases hle:s.length<=e
      ·rw [ab hle] at h
       have abb:decide ((s.length:Int)<=(e:Int))=true:=by simpa using hle
       subst h;exact sM
      ·rw [L hle] at h
       have abb:decide ((s.length:Int)<=(e:Int))=false:=by simp;omega
       have pP:bS s e [42,47]=true:=by
        cases pP:bS s e [42,47] with
        | true=>rfl
        | false=>exact absurd ⟨by omega,pP⟩ OI
       have pP:=kQ pP;have pP:e+2<=s.length:=pP;refine cw ?_;exact ⟨(f,e+2),⟨_,_,Wk.aH ar,rfl,rfl,pP,by simp only;omega,h⟩,by simp⟩
    ·rw [L qe] at h
     have vA:(!bS s a [47,42])=true:=by simpa using qe
     subst h;refine D ?_;refine V [] (ql s [47,42] a G aU G) ?_;exact nV
theorem ya:GF prog 80 [] [] (strs words) []:=by
 refine ah func80 ntmps80 ?_;refine cD ?_;exact ay
theorem Mh:GF prog 231 [] [] (strs bZ) []:=by
 refine ah func231 ntmps231 ?_;refine cD ?_;exact ay
theorem Pp (s:ae) (hs:s.length<=1099511627776):GF prog 79 [.v (sv s)] [] (.v (.bool (word s))) []:=by
 refine ah func79 ntmps79 ?_;refine GW.loop (fun a:Nat=>s.length - a) (fun a fr Γ=>fr=[.v (sv s),U,U,.v (ii (a:Nat)),U,U,U,U,U,U,U,U,U,U,U,U,U,U,U,U,U,U]/\Γ=[]/\a<=s.length/\(s.take a).all dR=true) 0 ?_ ?_
 ·exact ⟨_,_,Wk.aH ar,rfl,rfl,aM _,rfl⟩
 ·rintro a _ _ ⟨rfl,rfl,ha,aY⟩
  cases hc:s[a]? with
  | some c =>
   have ak:a < s.length:=(bo hc).1
   have hd:decide ((a:Int) < (s.length:Int))=true:=by simpa using ak
   have bV:(s.take (a+1)).all dR=((s.take a).all dR&&dR c):=by
    rw [cq,hc,List.all_append];simp
   have hp:=Fs c
   cases hn:dR c with
   | true =>
    rw [hn] at hp;refine D ?_;refine V [] hp ?_;exact ⟨a+1,⟨_,_,Wk.aH ar,rfl,rfl,ak,by rw [bV,aY,hn];rfl⟩,by omega⟩
   | false =>
    rw [hn] at hp;refine D ?_;refine V [] hp ?_;refine cH ?_;refine ⟨?_,rfl⟩
    have hw:word s=false:=by
     have:s.all dR=false:=by
      rw [List.all_eq_false];exact ⟨c,bA hc,by rw [hn];decide⟩
     unfold word;rw [this];rfl
    rw [hw];rfl
  | none =>
   have mV:s.length<=a:=qG hc
   have hd:decide ((a:Int) < (s.length:Int))=false:=by simpa using mV
   have aY:s.all dR=true:=by rw [kz mV] at aY;exact aY
   cases s with
   | nil =>
    refine cw ?_;exact ay
   | cons c r =>
    have hr:(c::r)[0]?=some c:=rfl;refine cw ?_;refine D ?_;refine V [] (x9 c) ?_;refine cH ?_;refine ⟨?_,rfl⟩;unfold word;rw [aY];rfl
theorem ew (s:ae) (hs:s.length<=1099511627776):GF prog 22 [.v (sv s)] [] (.v (.bool (bf s))) []:=by
 have hw:=Pp s hs;unfold bf;generalize word s=b at *;refine ah func22 ntmps22 ?_;refine fR [] hw ?_
 cases b with
 | false =>
  exact ay
 | true =>
  by_cases pO:s.length<=12
  ·have aaK:decide ((s.length:Int)<=12)=true:=by simpa using by omega
   refine D ?_;refine V [] ya ?_;refine V [] (iG words s aU) ?_;refine cH ?_;rw [decide_eq_true pO];exact ⟨rfl,rfl⟩
  ·have aaK:decide ((s.length:Int)<=12)=false:=by simpa using by omega
   refine D ?_;refine cH ?_;rw [decide_eq_false pO];exact ⟨rfl,rfl⟩
theorem Jg (s:ae) (a:Nat) (hs:s.length<=1099511627776) (ha:a<=s.length) :
  GF prog 230 [.v (sv s),.v (ii (a:Nat))] [] (.tup [.agg (dQ ⟨1,(number s (s.length+1) 0 a).1,[],a⟩),.v (ii ((number s (s.length+1) 0 a).2:Nat))]) []:=by
 generalize hR:number s (s.length+1) 0 a=R;generalize yI:a=a0 at *;refine ah func230 ntmps230 ?_;refine GW.loop (fun x:Nat × Int × Nat=>x.1) (fun x fr Γ=>fr=[.v (sv s),.v (ii (x.2.2:Nat)),U,U,.loc 0 0,U,.loc 1 0,U,U,U,U,U,U,U,U,U,U,U,U,U,U,U,U,U,U,U,U,U,U,U,U,U,U,U,U,U]/\Γ=[.box 183 [.v (ii 0),.v (ii 0),.v (sv []),.v (ii 0)],.box 183 (dQ ⟨1,x.2.1,[],a0⟩)]/\x.2.2<=s.length/\s.length < x.1+x.2.2/\number s x.1 x.2.1 x.2.2=R/\0<=x.2.1/\x.2.1<=21474836479) (s.length+1,0,a0) ?_ ?_
 ·exact ⟨_,_,Wk.aH ar,rfl,rfl,by simp only;omega,by simp only;omega,by rw [<-hR],by simp,by simp⟩
 ·rintro ⟨f,n,a⟩ _ _ ⟨rfl,rfl,ha,hf,h,Ba,Hk⟩;simp only at ha hf h Ba Hk
  cases f with
  | zero=>omega
  | succ f =>
  rw [number] at h
  cases hc:s[a]? with
  | none =>
   rw [hc] at h;simp only at h;subst h;have mV:s.length<=a:=qG hc
   have hd:decide ((a:Int) < (s.length:Int))=false:=by simpa using mV
   refine cw ?_;refine D ?_;refine kJ ?_;exact ⟨rfl,rfl⟩
  | some c =>
   rw [hc] at h;simp only at h;have ak:a < s.length:=(bo hc).1
   have hd:decide ((a:Int) < (s.length:Int))=true:=by simpa using ak
   have n5:=x8 c
   cases hdc:eV c with
   | false =>
    rw [hdc] at n5;rw [L (by rw [hdc];simp)] at h;subst h;refine D ?_;refine V [] n5 ?_;refine ky ?_;refine D ?_;refine kJ ?_;exact ⟨rfl,rfl⟩
   | true =>
    rw [hdc] at n5;rw [ab hdc] at h
    have zA:(48:Int)<=(c.toNat:Int)/\(c.toNat:Int)<=57:=by
     simp only [eV,aC,decide_eq_true_eq] at hdc;exact hdc
    by_cases hn:n<=2147483647
    ·rw [ab hn] at h
     have CV:decide (n<=2147483647)=true:=by simpa using hn
     refine D ?_;refine V [] n5 ?_;refine aL (aD 0 10 (.a 10 .nil)) ?_;refine bx ?_;exact ⟨(f,n * 10+((c.toNat:Int) - 48),a+1),⟨_,_,Wk.aH ar,rfl,rfl,ak,by simp only;omega,h,by simp only;omega,by simp only;omega⟩,by simp⟩
    ·rw [L hn] at h
     have CV:decide (n<=2147483647)=false:=by simpa using hn
     refine D ?_;refine V [] n5 ?_;exact ⟨(f,n,a+1),⟨_,_,Wk.aH ar,rfl,rfl,ak,by simp only;omega,h,Ba,Hk⟩,by simp⟩
theorem N3 {xs:List ae} {p:ae->Bool} {k:Nat} {x:ae} (h:(xs.take k).find? p=none) (hx:xs[k]?=some x) (hp:p x=true):xs.find? p=some x:=by
 have ak:=(bo hx).1
 have:xs=xs.take k++x::xs.drop (k+1):=by
  have F:=List.take_append_drop k xs;rw [ju ak] at F;rw [(bo hx).2] at F;exact F.symm
 rw [this,List.find?_append,h];simp [List.find?_cons,hp]
theorem N2 {xs:List ae} {p:ae->Bool} {k:Nat} {x:ae} (h:(xs.take k).find? p=none) (hx:xs[k]?=some x) (hp:p x=false):(xs.take (k+1)).find? p=none:=by
 rw [cq,hx,List.find?_append,h];simp [List.find?_cons,hp]
theorem Jw:∀ x∈bZ,x.length<=1152921504606846976:=by decide
theorem RN (s:ae) (a:Nat) (c:UInt8) (hs:s.length<=1099511627776) (hc:s[a]?=some c) :
  GF prog 186 [.v (sv s),.v (ii (a:Nat))] [] (.tup [.agg (dQ (jY s a c).1),.v (ii ((jY s a c).2:Nat))]) []:=by
 have ak:a < s.length:=(bo hc).1;have n5:=x8 c;have kl:=x9 c;unfold jY
 cases hdc:eV c with
 | true =>
  rw [hdc] at n5;rw [ab rfl];refine ah func186 ntmps186 ?_;refine V [] n5 ?_;refine V [] (Jg s a hs G) ?_;refine kJ ?_;exact ⟨rfl,rfl⟩
 | false =>
  rw [hdc] at n5;rw [L aU]
  cases hsc:small c with
  | true =>
   rw [hsc] at kl;rw [ab rfl];have O1:=ni s dR (s.length+1) a G G;have hw0:(s.take (fB s a)).drop a=gm s a:=rfl;have Xc:run s dR (s.length+1) a=fB s a:=rfl;rw [Xc] at O1;generalize he:fB s a=e at *;generalize hw:gm s a=w at *;have hw:=hw0;have he:=Xc;refine ah func186 ntmps186 ?_;refine V [] n5 ?_;refine V [] kl ?_;refine GW.TX (fun fr Γ=>fr=[.v (sv s),.v (ii (a:Nat)),U,U,.loc 0 0,U,.v (ii (e:Nat)),U,U,U,U,U,U,U,U,U,U,U,U,U,U,U,U,U,U,U,U,U,U,U,U,U,U,U,U,U,U,U,U,U,U,U,U,U,U,U,U,U,U,U,U,U,U,U,U,U,U,U,U,U,U,U,U,U,U,U,U,U,U]/\Γ=[.box 183 [.v (ii 0),.v (ii 0),.v (sv []),.v (ii 0)]]) ?_ ?_
   ·refine GW.loop (fun x:Nat × Nat=>x.1) (fun x fr Γ=>fr=[.v (sv s),.v (ii (a:Nat)),U,U,.loc 0 0,U,.v (ii (x.2:Nat)),U,U,U,U,U,U,U,U,U,U,U,U,U,U,U,U,U,U,U,U,U,U,U,U,U,U,U,U,U,U,U,U,U,U,U,U,U,U,U,U,U,U,U,U,U,U,U,U,U,U,U,U,U,U,U,U,U,U,U,U,U,U]/\Γ=[.box 183 [.v (ii 0),.v (ii 0),.v (sv []),.v (ii 0)]]/\x.2<=s.length/\s.length < x.1+x.2/\run s dR x.1 x.2=e) (s.length+1,a) ?_ ?_
    ·exact ⟨_,_,Wk.aH ar,rfl,rfl,by simp only;omega,by simp only;omega,he⟩
    ·rintro ⟨f,b⟩ _ _ ⟨rfl,rfl,hb,hf,h⟩;simp only at hb hf h
     cases f with
     | zero=>omega
     | succ f =>
     rw [run] at h
     cases A3:s[b]? with
     | none =>
      rw [A3] at h;simp only at h;subst h;have mV:s.length<=b:=qG A3
      have hd:decide ((b:Int) < (s.length:Int))=false:=by simpa using mV
      refine cw ?_;exact fL
     | some cb =>
      rw [A3] at h;simp only at h;have rq:b < s.length:=(bo A3).1
      have hd:decide ((b:Int) < (s.length:Int))=true:=by simpa using rq
      have hp:=Fs cb
      cases hn:dR cb with
      | true =>
       rw [hn] at hp;rw [ab hn] at h;refine D ?_;refine V [] hp ?_;exact ⟨(f,b+1),⟨_,_,Wk.aH ar,rfl,rfl,rq,by simp only;omega,h⟩,by simp⟩
      | false =>
       rw [hn] at hp;rw [L (by rw [hn];decide)] at h;subst h;refine D ?_;refine V [] hp ?_;refine ky ?_;exact fL
   ·rintro _ _ ⟨rfl,rfl⟩;obtain ⟨_,F,I⟩:=O1;refine D ?_;rw [hw];have L4:=iG words w aU
    cases hcw:words.contains w with
    | true =>
     rw [hcw] at L4;refine aL (.q 1 (.q 2 (.a 0 (.a 3 .nil)))) ?_;refine ao ?_;refine aI [] ya ?_;refine aI [] L4 ?_;refine D ?_;refine kJ ?_;rw [ab rfl];exact ⟨rfl,rfl⟩
    | false =>
     rw [hcw] at L4;refine aL (.q 1 (.q 2 (.a 0 (.a 3 .nil)))) ?_;refine ao ?_;refine aI [] ya ?_;refine aI [] L4 ?_;refine D ?_;refine kJ ?_;rw [L aU];exact ⟨rfl,rfl⟩
  | false =>
   rw [hsc] at kl;rw [L aU];refine ah func186 ntmps186 ?_;refine V [] n5 ?_;refine V [] kl ?_;refine V [] Mh ?_;refine GW.range (bZ.map fun s=>[GV.v (sv s)]).length (fun k fr Γ=>fr=[.v (sv s),.v (ii (a:Nat)),U,U,.loc 0 0,U,U,U,U,U,U,U,U,U,U,U,U,U,U,U,U,U,U,U,U,U,U,U,U,U,U,U,U,U,U,U,U,U,U,U,U,U,U,U,U,U,U,U,U,strs bZ,.v (ii ((bZ.map fun s=>[GV.v (sv s)]).length:Int)),.v (ii (k:Nat)),U,U,U,U,U,U,U,U,U,U,U,U,U,U,U,U,U]/\Γ=[.box 183 [.v (ii 0),.v (ii 0),.v (sv []),.v (ii 0)]]/\(bZ.take k).find? (bS s a)=none) ?_ aU ?_ ?_ ?_
   ·exact kV
   ·exact jd
   ·rintro k _ _ hk ⟨rfl,rfl,hf⟩
    have hk:k < bZ.length:=by simpa using hk
    have hx:bZ[k]?=some bZ[k]:=by simp [hk]
    have hr:(bZ.map fun s=>[GV.v (sv s)])[k]?=some [.v (sv bZ[k])]:=by simp [hk]
    have Bd:=Jw _ (getElem_mem hk);generalize bZ[k]=x at *;have qe:=ql s x a G Bd G
    cases hb:bS s a x with
    | true =>
     rw [hb] at qe;have Xe:=N3 hf hx hb;refine D ?_;refine V [] qe ?_;refine kJ ?_;rw [Xe];exact ⟨rfl,rfl⟩
    | false =>
     rw [hb] at qe;refine D ?_;refine V [] qe ?_;exact ⟨rfl,rfl,_,_,Wk.aH ar,rfl,rfl,N2 hf hx hb⟩
   ·rintro _ _ ⟨rfl,rfl,hf⟩
    have hf:bZ.find? (bS s a)=none:=by
     rw [kz (by simp)] at hf;exact hf
    refine D ?_;refine kJ ?_;rw [hf];exact ⟨rfl,rfl⟩
theorem SP {s:ae} {a:Nat} {c:UInt8} (hc:s[a]?=some c):a<=(jY s a c).2/\(jY s a c).2<=s.length:=by
 have ak:a < s.length:=(bo hc).1;unfold jY;split
 ·exact (yn s (s.length+1) 0 a G G).2
 ·split
  ·exact (ni s dR (s.length+1) a G G).2
  ·split
   ·rename_i x hx;have:=kQ (List.find?_some hx);exact ⟨Nat.le_add_right _ _,this⟩
   ·exact ⟨aE _,by omega⟩
theorem Pr (s:ae) (l:List Tok) (hs:s.length<=1000000000000) (h:Go.Sp.jP s=some l) :
  GF prog 152 [.v (sv s)] [] (Go.Xg.jP l) []:=by
 rw [Go.Sp.jP] at h;have hsk:=Qb s 0 G (aM _);have uW:=AB s (s.length+1) 0 (aM _);generalize hS:skip s (s.length+1) 0=R at *;refine ah func152 ntmps152 ?_;refine rP ?_;refine D ?_;refine V [] hsk ?_;refine GW.loop (fun x:Nat × Nat × List Tok=>x.1) (fun x fr Γ=>∃ n rows,fr=[.v (sv s),U,U,.vec 0 n,.v (ii (x.2.1:Nat)),U,U,U,U,U,U,U,U,U,U,U,U,U,U,U,U,U,U,U,U,U,U,U,U,U,U,U,U,U,U]/\Γ=[.vec 183 4 0 rows]/\rows.length=n/\rows=x.2.2.map dQ/\n+x.1<=s.length+2/\x.2.1<=s.length/\rN s x.1 x.2.1 x.2.2=some l) (s.length+2,R.1,[]) ?_ ?_
 ·exact ⟨_,_,Wk.aH ar,0,[],rfl,rfl,rfl,rfl,by simp,uW.2,h⟩
 ·rintro ⟨f,a,acc⟩ _ _ ⟨n,rows,rfl,rfl,hn,bK,tw,ha,h⟩;simp only at bK tw ha h
  cases f with
  | zero=>simp [rN] at h
  | succ f =>
  rw [rN] at h
  cases hc:s[a]? with
  | none =>
   rw [hc] at h;simp only at h;cases h;have mV:s.length<=a:=qG hc
   have hd:decide ((a:Int) < (s.length:Int))=false:=by simpa using mV
   subst bK;refine cw ?_;refine D ?_;refine GW.wk (Wk.jD (t:=2) rfl rfl rfl hn) ?_;exact aj
  | some c =>
   rw [hc] at h;simp only at h;have ak:a < s.length:=(bo hc).1
   have hd:decide ((a:Int) < (s.length:Int))=true:=by simpa using ak
   have qO:=SP hc;have eO:=RN s a c G hc;generalize jY s a c=tk at *;have abq:=Qb s tk.2 G qO.2;have acq:=AB s (s.length+1) tk.2 qO.2;generalize skip s (s.length+1) tk.2=R2 at *;refine D ?_;refine V [] eO ?_;refine fk ?_;refine D ?_;refine V [] abq ?_;exact ⟨(f,R2.1,acc++[tk.1]),⟨_,_,(Wk.cut (n:=1) (fq rfl) rfl).trans (Wk.aH ar),_,_,rfl,rfl,by simp [hn],by rw [gU,bK];rfl,by simp only;omega,by simp only;omega,h⟩,by simp⟩
structure Gq (f:Nat):Prop where
 expr:∀ d p t q,p.ok->d+f<=4611686018427387904->mE f (.expr d) p=some (t,q)->GF prog 235 [.loc 0 0,.v (ii (d:Nat))] [cP p] (.agg (cT t)) [cP q]
 level:∀ k d p t q,p.ok->k<=9->d+f<=4611686018427387904->mE f (.level k d) p=some (t,q)->GF prog 263 [.loc 0 0,.v (ii (k:Nat)),.v (ii (d:Nat))] [cP p] (.agg (cT t)) [cP q]
 operand:∀ d p t q,p.ok->d+f<=4611686018427387904->mE f (.operand d) p=some (t,q)->GF prog 277 [.loc 0 0,.v (ii (d:Nat))] [cP p] (.agg (cT t)) [cP q]
 named:∀ a s d p t q,p.ok->d+f<=4611686018427387904->mE f (.named a s d) p=some (t,q)->GF prog 286 [.loc 0 0,.v (ii a),.v (sv s),.v (ii (d:Nat))] [cP p] (.agg (cT t)) [cP q]
 list:∀ d p l q,p.ok->d+f<=4611686018427387904->mL f d p=some (l,q)->GF prog 290 [.loc 0 0,.v (ii (d:Nat))] [cP p] (.sl 6 (aQ l)) [cP q]
theorem Wh {f:Nat} (C:Gq f) (d:Nat) (p:RS) (t:T) (q:RS) (hp:p.ok) (hd:d+(f+1)<=4611686018427387904) (h:mE (f+1) (.expr d) p=some (t,q)) :
  GF prog 235 [.loc 0 0,.v (ii (d:Nat))] [cP p] (.agg (cT t)) [cP q]:=by
 rw [mE] at h;refine ah func235 ntmps235 ?_;refine V [0] (vK p d hp) ?_;refine V [0] (C.level 0 d _ t q ((pK hp d).ok hp) G G h) ?_;exact ei
theorem KD {k:Nat} (hk:k < 9):(levels.map fun l=>[strs l])[k]?=some [strs (levels.getD k [])]:=by
 have:k < levels.length:=hk;rw [aP,dO this,List.getD_eq_getElem?_getD,dO this];rfl
theorem Ee:∀ k,k < 9->(levels.getD k []).length<=1099511627776:=by decide
abbrev zT:List GV:=[.v (ii 0),.v (ii 0),.v (ii 0),.v (sv []),.v (.slice none 0 0),.v (.slice none 0 0)]
theorem U8 {f:Nat} (C:∀ f',f'<=f->Gq f') (k d:Nat) (p:RS) (t:T) (q:RS) (hp:p.ok) (hk:k<=9) (hd:d+(f+1)<=4611686018427387904) (h:mE (f+1) (.level k d) p=some (t,q)) :
  GF prog 263 [.loc 0 0,.v (ii (k:Nat)),.v (ii (d:Nat))] [cP p] (.agg (cT t)) [cP q]:=by
 rw [mE] at h
 by_cases CQ:k=9
 ·subst CQ;rw [ab rfl] at h;refine ah func263 ntmps263 ?_;refine V [] kY ?_;refine V [0] ((C f (aE _)).operand (d+1) p t q hp G h) ?_;exact ei
 ·rw [L CQ] at h
  have aa8:((k:Int)==9)=false:=by simp;omega
  cases he:mE f (.level (k+1) d) p with
  | none=>rw [he] at h;cases h
  | some r =>
   obtain ⟨out,p1⟩:=r;rw [he] at h;simp only at h;have l8:=((vN f).1 _ _ _ _ hp he).ok hp;refine ah func263 ntmps263 ?_;refine V [] kY ?_;refine V [0] ((C f (aE _)).level (k+1) d p out p1 hp G G he) ?_;refine GW.loop (fun x:Nat × T × RS=>x.1) (fun x fr Γ=>fr=[.loc 0 0,.v (ii (k:Nat)),.v (ii (d:Nat)),U,U,U,.loc 1 0,.loc 2 0,U,U,U,U,U,U,U,U,U,U,U,U,U,U,U,U,U,U,U,U,U,U,U,U,U,U,U,U,U,U,U,U,U,U,U,U,U,U,U,U,U,U,U,U,U,U,U,U,U,U,U,U,U,U,U,U,U,U]/\Γ=[cP x.2.2,.box 65 zT,.box 65 (cT x.2.1)]/\x.2.2.ok/\x.1<=f/\mE x.1 (.loop k d x.2.1) x.2.2=some (t,q)) (f,out,p1) ?_ ?_
   ·exact ⟨_,_,Wk.aH ar,rfl,rfl,l8,aE _,h⟩
   ·rintro ⟨g,out,p⟩ _ _ ⟨rfl,rfl,hp,Hc,h⟩;simp only at hp Hc h
    cases g with
    | zero=>simp [mE] at h
    | succ g =>
    rw [mE] at h
    have hk:k < 9:=by omega
    by_cases hc:p.code=0
    ·have dY:(p.code==0)=true:=by simpa using hc
     have Kk:=KD hk
     by_cases hit:(levels.getD k []).contains (p.sign 0)=true
     ·rw [ab ⟨hc,hit⟩] at h
      cases ht:p.l[p.i]? with
      | none=>rw [ht] at h;cases h
      | some tk =>
       rw [ht] at h;simp only at h;have ak:=(bo ht).1;have hr:=lS ht;have cZ:=hp.2
       cases hb:mE g (.level (k+1) d) p.next with
       | none=>rw [hb] at h;cases h
       | some r =>
        obtain ⟨b,p2⟩:=r;rw [hb] at h;simp only at h;have dL:=(ep ak).ok hp;have ef:=((vN g).1 _ _ _ _ dL hb).ok dL;refine D ?_;refine aL (aD 0 6 (.q 7 (.q 10 (.a 6 (.q 8 (.q 9 (.a 11 (.a 12 (.q 13 .nil))))))))) ?_;refine ao ?_;refine b6 [] kY ?_;refine b6 [0] (dN p 0 hp aU) ?_;refine b6 [] (iG (levels.getD k []) (p.sign 0) (Ee k hk)) ?_;refine D ?_;refine aL (aD 0 10 (.a 10 (.a 11 .nil))) ?_;refine bx ?_;refine aL (aD 0 9 (.a 9 (.a 10 (.a 11 (.a 12 .nil))))) ?_;refine ao ?_;refine aI [0] ((C g G).level (k+1) d p.next b p2 dL G G hb) ?_;refine dC ?_;refine ao ?_;refine yB [] (iH 6 tk.at_ tk.s [out,b] _ pL) ?_;refine IL ?_;refine bx ?_;exact ⟨(g,one 6 tk.at_ tk.s [out,b],p2),⟨_,_,(Wk.cut (n:=3) (fq rfl) rfl).trans (Wk.aH ar),rfl,rfl,ef,by omega,h⟩,by simp⟩
     ·have hit:(levels.getD k []).contains (p.sign 0)=false:=by simpa using hit
      rw [L (by rw [hit];simp)] at h
      obtain ⟨rfl,rfl⟩:out=t/\p=q:=by simpa using h
      refine D ?_;refine aL (aD 0 6 (.q 7 (.q 10 (.a 6 (.q 8 (.q 9 (.a 11 (.a 12 (.q 13 .nil))))))))) ?_;refine ao ?_;refine b6 [] kY ?_;refine b6 [0] (dN p 0 hp aU) ?_;refine b6 [] (iG (levels.getD k []) (p.sign 0) (Ee k hk)) ?_;refine cw ?_;exact kH
    ·have dY:(p.code==0)=false:=by simpa using hc
     rw [L (fun hh=>hc hh.1)] at h
     obtain ⟨rfl,rfl⟩:out=t/\p=q:=by simpa using h
     refine D ?_;refine aL (aD 0 6 (.q 7 (.q 10 (.a 6 (.q 8 (.q 9 (.a 11 (.a 12 (.q 13 .nil))))))))) ?_;refine bx ?_;refine ky ?_;exact kH
theorem Ve {f:Nat} (C:Gq f) (a:Int) (s:ae) (d:Nat) (p:RS) (t:T) (q:RS) (hp:p.ok) (hd:d+(f+1)<=4611686018427387904) (h:mE (f+1) (.named a s d) p=some (t,q)) :
  GF prog 286 [.loc 0 0,.v (ii a),.v (sv s),.v (ii (d:Nat))] [cP p] (.agg (cT t)) [cP q]:=by
 rw [mE] at h
 by_cases F:p.sign 0=[91]
 ·rw [ab F] at h
  have dq:(p.sign 0==[91])=true:=by simp [F]
  have ak:=(gR F aU).1;have cZ:=hp.2;have dL:=(kx F aU).ok hp
  cases he:mE f (.expr (d+1)) p.next with
  | none=>rw [he] at h;cases h
  | some r =>
   obtain ⟨b,p1⟩:=r;rw [he] at h;cases h;have l8:=((vN f).1 _ _ _ _ dL he).ok dL;refine ah func286 ntmps286 ?_;refine V [0] (dN p 0 hp aU) ?_;refine V [0] (C.expr (d+1) p.next b p1 dL G he) ?_;refine V [0] (dM p1 [93] l8 aU) ?_;refine cD ?_;refine D ?_;refine V [] (iH 3 a s [b] _ pL) ?_;exact ei
 ·rw [L F] at h
  have dq:(p.sign 0==[91])=false:=by simpa using F
  by_cases I:p.sign 0=[40]
  ·rw [ab I] at h
   have rW:(p.sign 0==[40])=true:=by simp [I]
   have ak:=(gR I aU).1;have cZ:=hp.2;have dL:=(kx I aU).ok hp
   cases he:mL f (d+1) p.next with
   | none=>rw [he] at h;cases h
   | some r =>
    obtain ⟨l,p1⟩:=r;rw [he] at h;cases h;refine ah func286 ntmps286 ?_;refine V [0] (dN p 0 hp aU) ?_;refine V [0] (C.list (d+1) p.next l q dL G he) ?_;refine V [] (iH 4 a s l _ rfl) ?_;exact ei
  ·rw [L I] at h
   have rW:(p.sign 0==[40])=false:=by simpa using I
   cases h;refine ah func286 ntmps286 ?_;refine V [0] (dN p 0 hp aU) ?_;refine V [] (iH 2 a s [] [] rfl) ?_;exact ei
theorem aX (l:List T):(aQ l).length=l.length:=by
 induction l with
 | nil=>rfl
 | cons a l ih=>simp [aQ,ih]
theorem tj (l:List T) (a:T):aQ (l++[a])=aQ l++[cT a]:=by
 induction l with
 | nil=>simp [aQ,sn]
 | cons b l ih=>simp [aQ,ih]
theorem Ya {f:Nat} (C:∀ f',f'<=f->Gq f') (d:Nat) (p:RS) (l:List T) (q:RS) (hp:p.ok) (hd:d+(f+1)<=4611686018427387904) (h:mL (f+1) d p=some (l,q)) :
  GF prog 290 [.loc 0 0,.v (ii (d:Nat))] [cP p] (.sl 6 (aQ l)) [cP q]:=by
 rw [mL] at h
 by_cases F:p.sign 0=[41]
 ·rw [ab F] at h
  have dq:(!(p.sign 0==[41]))=false:=by simp [F]
  cases h;refine ah func290 ntmps290 ?_;refine rP ?_;refine D ?_;refine V [0] (dN p 0 hp aU) ?_;refine V [0] (dM p [41] hp aU) ?_;refine GW.wk (Wk.jD (t:=4) rfl rfl rfl rfl) ?_;exact aj
 ·rw [L F] at h
  have dq:(!(p.sign 0==[41]))=true:=by simpa using F
  cases he:mE f (.expr d) p with
  | none=>rw [he] at h;cases h
  | some r =>
   obtain ⟨a,p1⟩:=r;rw [he] at h;simp only at h;have l8:=((vN f).1 _ _ _ _ hp he).ok hp;refine ah func290 ntmps290 ?_;refine rP ?_;refine D ?_;refine V [0] (dN p 0 hp aU) ?_;refine V [0] ((C f (aE _)).expr d p a p1 hp G he) ?_;refine fk ?_;refine D ?_;refine GW.loop (fun x:Nat × List T × RS=>x.1) (fun x fr Γ=>∃ n rows,fr=[.loc 0 0,.v (ii (d:Nat)),U,U,U,.vec 1 n,U,U,U,U,U,U,U,U,U,U,U,U,U,U,U,U,U,U,U,U,U,U,U,U,U,U,U,U,U]/\Γ=[cP x.2.2,.vec 65 6 0 rows]/\rows.length=n/\rows=aQ x.2.1/\n<=x.2.2.i+1/\x.2.2.ok/\x.1<=f/\u9 x.1 d x.2.1 x.2.2=some (l,q)) (f,[a],p1) ?_ ?_
   ·exact ⟨_,_,Wk.aH ar,_,_,rfl,rfl,rfl,(by simp only [aQ,sn];rfl),(by show 1<=p1.i+1;omega),l8,aE _,h⟩
   ·rintro ⟨g,acc,p⟩ _ _ ⟨n,rows,rfl,rfl,hn,bK,Xs,hp,Hc,h⟩;simp only at bK Xs hp Hc h
    cases g with
    | zero=>simp [u9] at h
    | succ g =>
    rw [u9] at h;have cZ:=hp.2;have Fh:=hp.1
    by_cases I:p.sign 0=[44]
    ·rw [ab I] at h
     have rW:(p.sign 0==[44])=true:=by simp [I]
     have ak:=(gR I aU).1;have dL:=(kx I aU).ok hp
     cases hb:mE g (.expr d) p.next with
     | none=>rw [hb] at h;cases h
     | some r =>
      obtain ⟨b,p2⟩:=r;rw [hb] at h;simp only at h;have TP:=(vN g).1 _ _ _ _ dL hb;have ef:=TP.ok dL;have tU:p.i+1<=p2.i:=TP.2.2.2;refine D ?_;refine V [0] (dN p 0 hp aU) ?_;refine V [0] ((C g G).expr d p.next b p2 dL G hb) ?_;refine fk ?_;refine D ?_;exact ⟨(g,acc++[b],p2),⟨_,_,Wk.aH ar,_,_,rfl,rfl,by simp [hn],by rw [tj,bK],by simp only;omega,ef,by simp only;omega,h⟩,by simp⟩
    ·rw [L I] at h
     have rW:(p.sign 0==[44])=false:=by simpa using I
     obtain ⟨rfl,rfl⟩:acc=l/\p.aW [41]=q:=by simpa using h
     subst bK;refine D ?_;refine V [0] (dN p 0 hp aU) ?_;refine ky ?_;refine D ?_;refine V [0] (dM p [41] hp aU) ?_;refine GW.wk (Wk.jD (t:=4) rfl rfl rfl hn) ?_;exact aj
theorem PQ {f:Nat} (C:Gq f) (d:Nat) (p:RS) (t:T) (q:RS) (hp:p.ok) (hd:d+(f+1)<=4611686018427387904) (h:mE (f+1) (.operand d) p=some (t,q)) :
  GF prog 277 [.loc 0 0,.v (ii (d:Nat))] [cP p] (.agg (cT t)) [cP q]:=by
 rw [mE] at h;have l9:=(pK hp d).ok hp;have xT:=vK p d hp;generalize p.deep d=p1 at *
 try simp only at h
 obtain ⟨Fh,cZ⟩:=id l9
 by_cases hc:p1.code=0
 ·rw [ab hc] at h
  have dY:(p1.code != 0)=false:=by simpa using hc
  cases ht:p1.l[p1.i]? with
  | none =>
   rw [ht] at h;cases h;have mV:p1.l.length<=p1.i:=qG ht
   have aa4:decide (((p1.l.map dQ).length:Int)<=(p1.i:Int))=true:=by simp;omega
   refine ah func277 ntmps277 ?_;refine V [0] xT ?_;refine aL (aD 0 17 .nil) ?_;refine bx ?_;refine V [0] (mg p1 l9) ?_;refine V [0] (nF p1 7 p1.place) ?_;refine sO ?_;exact ⟨_,gS,rfl,rfl⟩
  | some tk =>
   rw [ht] at h;simp only at h;have ak:p1.i < p1.l.length:=(bo ht).1
   have aa4:decide (((p1.l.map dQ).length:Int)<=(p1.i:Int))=false:=by simp;omega
   have hr:=lS ht;have dL:=(ep ak).ok l9;refine ah func277 ntmps277 ?_;refine V [0] xT ?_;refine aL (aD 0 17 .nil) ?_;refine bx ?_;refine aL (aD 0 10 (.a 10 (.a 11 .nil))) ?_;refine bx ?_
   by_cases k1:tk.kind=1
   ·rw [ab k1] at h;cases h
    have k1':(tk.kind==1)=true:=by simpa using k1
    refine D ?_;refine sO ?_;exact ⟨_,gS,rfl,rfl⟩
   ·rw [L k1] at h
    have k1':(tk.kind==1)=false:=by simpa using k1
    by_cases k2:tk.kind=2
    ·rw [ab k2] at h
     have k2':(tk.kind==2)=true:=by simpa using k2
     refine D ?_;refine V [0] (zH p1 l9) ?_;refine V [0] (C.named tk.at_ p1.name.1 d p1.name.2 t q ((sK l9).ok l9) G h) ?_;exact ei
    ·rw [L k2] at h
     have k2':(tk.kind==2)=false:=by simpa using k2
     by_cases s3:tk.s=[45]\/tk.s=[33]\/tk.s=[126]
     ·rw [ab s3] at h
      cases he:mE f (.operand (d+1)) p1.next with
      | none=>rw [he] at h;cases h
      | some r =>
       obtain ⟨a,p2⟩:=r;rw [he] at h;cases h
       have s3':(tk.s==[45])=true\/((tk.s==[45])=false/\(tk.s==[33])=true)\/((tk.s==[45])=false/\(tk.s==[33])=false/\(tk.s==[126])=true):=by
        rcases s3 with s3 | s3 | s3
        ·exact .inl (by simp [s3])
        ·exact .inr (.inl (by simp [s3]))
        ·exact .inr (.inr (by simp [s3]))
       refine D ?_
       rcases s3' with e1 | ⟨e1,e2⟩ | ⟨e1,e2,e3⟩
       all_goals
        refine D ?_;refine aL (aD 0 7 (.a 7 (.a 8 (.a 9 (.a 10 .nil))))) ?_;refine ao ?_;refine aI [0] (C.operand (d+1) p1.next a q dL G he) ?_;refine dC ?_;refine ao ?_;refine yB [] (iH 5 tk.at_ tk.s [a] _ pL) ?_;refine IL ?_;refine ao ?_;exact kH
     ·rw [L s3] at h
      have e1:(tk.s==[45])=false:=by simp at s3;simpa using s3.1
      have e2:(tk.s==[33])=false:=by simp at s3;simpa using s3.2.1
      have e3:(tk.s==[126])=false:=by simp at s3;simpa using s3.2.2
      by_cases s4:tk.s=[40]
      ·rw [ab s4] at h
       have s4':(tk.s==[40])=true:=by simp [s4]
       cases he:mE f (.expr (d+1)) p1.next with
       | none=>rw [he] at h;cases h
       | some r =>
        obtain ⟨a,p2⟩:=r;rw [he] at h;cases h;have ef:=((vN f).1 _ _ _ _ dL he).ok dL;refine D ?_;refine V [0] (C.expr (d+1) p1.next t p2 dL G he) ?_;refine V [0] (dM p2 [41] ef aU) ?_;exact ei
      ·rw [L s4] at h
       have s4':(tk.s==[40])=false:=by simpa using s4
       cases h;refine D ?_;refine V [0] (nF p1 7 tk.at_) ?_;refine sO ?_;exact ⟨_,gS,rfl,rfl⟩
 ·rw [L hc] at h
  have dY:(p1.code != 0)=true:=by simpa using hc
  cases h;refine ah func277 ntmps277 ?_;refine V [0] xT ?_;refine aL (aD 0 17 .nil) ?_;refine bx ?_;refine V [0] (mg p1 l9) ?_;refine V [0] (nF p1 7 p1.place) ?_;refine sO ?_;exact ⟨_,gS,rfl,rfl⟩
theorem rds (f:Nat):Gq f:=by
  induction f using Nat.strongRecOn with
  | _ f ih =>
   cases f with
   | zero=>exact ⟨fun d p t q _ _ h=>by simp [mE] at h,fun k d p t q _ _ _ h=>by simp [mE] at h,fun d p t q _ _ h=>by simp [mE] at h,fun a s d p t q _ _ h=>by simp [mE] at h,fun d p l q _ _ h=>by simp [mL] at h⟩
   | succ f =>
    have C:=ih f (Nat.lt_succ_self f)
    have Cs:∀ f',f'<=f->Gq f':=fun f' h=>ih f' (Nat.lt_succ_of_le h)
    exact ⟨fun d p t q hp hd h=>Wh C d p t q hp hd h,fun k d p t q hp hk hd h=>U8 Cs k d p t q hp hk hd h,fun d p t q hp hd h=>PQ C d p t q hp hd h,fun a s d p t q hp hd h=>Ve C a s d p t q hp hd h,fun d p l q hp hd h=>Ya Cs d p l q hp hd h⟩
end Go.Xg
namespace Go.Xg
open GV (U)
open Go.RowKit Go.Xw Go.Proofs Tryz
open Go.Xp (Tok Nd T bH one levels ja eP fi en dV)
open Go.Sp
attribute [local irreducible] GW GL GO YG GC GA be bg
structure Nr (f:Nat):Prop where
 block:∀ d p t q,p.ok->d+f<=1099511627776->mS f (.block d) p=some (t,q)->GF prog 153 [.loc 0 0,.v (ii (d:Nat))] [cP p] (.agg (cT t)) [cP q]
 stmt:∀ d p t q,p.ok->d+f<=1099511627776->mS f (.stmt d) p=some (t,q)->GF prog 192 [.loc 0 0,.v (ii (d:Nat))] [cP p] (.agg (cT t)) [cP q]
 cond:∀ a d p t q,p.ok->p.i < p.l.length->d+f<=1099511627776->mS f (.cond a d) p=some (t,q)->GF prog 236 [.loc 0 0,.v (ii a),.v (ii (d:Nat))] [cP p] (.agg (cT t)) [cP q]
theorem zJ (d:Nat) (p:RS) (t:T) (q:RS) (hp:p.ok) (hd:d<=1099511627777) (h:mX d p=some (t,q)):GF prog 235 [.loc 0 0,.v (ii (d:Nat))] [cP p] (.agg (cT t)) [cP q] :=
 (rds (fe p)).expr d p t q hp (by have:=hp.2;unfold fe;omega) h
theorem Mi (k a:Int) (s:ae):GF prog 188 [.v (ii k),.v (ii a),.v (sv s),.v (.slice none 0 0)] [] (.agg [.v (ii k),.v (ii a),.v (ii 0),.v (sv s),ints [],.v (.slice none 0 0)]) []:=by
 refine ah func188 ntmps188 ?_;refine sO ?_;exact ⟨_,gS,rfl,rfl⟩
theorem Uy {f:Nat} (C:∀ f',f'<=f->Nr f') (d:Nat) (p:RS) (t:T) (q:RS) (hp:p.ok) (hd:d+(f+1)<=1099511627776) (h:mS (f+1) (.block d) p=some (t,q)) :
  GF prog 153 [.loc 0 0,.v (ii (d:Nat))] [cP p] (.agg (cT t)) [cP q]:=by
 rw [mS] at h;have l9:=(pK hp d).ok hp;have xT:=vK p d hp;generalize p.deep d=p1 at *
 try simp only at h
 have qN:=(gz l9 (s:=[123]) aU).ok l9
 cases he:mB f (d+1) [] (p1.aW [123]) with
 | none=>rw [he] at h;cases h
 | some r =>
  obtain ⟨l,q1⟩:=r;rw [he] at h;cases h;generalize cZ:p1.place=pl;refine ah func153 ntmps153 ?_;refine V [0] xT ?_;refine V [0] (mg p1 l9) ?_;refine V [] (Mi 14 p1.place []) ?_;refine V [0] (dM p1 [123] l9 aU) ?_;rw [cZ];refine GW.wk (Wk.wo (i:=2) (o:=5) 65 6 rfl rfl) ?_;refine GW.loop (fun x:Nat × List T × RS=>x.1) (fun x fr Γ=>∃ n rows,fr=[.loc 0 0,.v (ii (d:Nat)),U,U,.loc 1 0,.loc 2 0,U,U,U,U,U,U,U,U,U,U,U,U,U,U,U,U,U,U,U,U,U,U,U,U,U,U,U,U,U,U]/\Γ=[cP x.2.2,.box 65 zT,.box 65 [.v (ii 14),.v (ii pl),.v (ii 0),.v (sv []),ints [],.vec 3 n],.vec 65 6 0 rows]/\rows.length=n/\rows=aQ x.2.1/\n+x.1<=f/\x.2.2.ok/\mB x.1 (d+1) x.2.1 x.2.2=some (l,q1)) (f,[],p1.aW [123]) ?_ ?_
  ·exact ⟨_,_,Wk.aH ar,0,[],rfl,rfl,rfl,rfl,by simp,qN,he⟩
  ·rintro ⟨g,acc,p⟩ _ _ ⟨n,rows,rfl,rfl,hn,bK,Bb,hp,h⟩;simp only at bK Bb hp h
   cases g with
   | zero=>simp [mB] at h
   | succ g =>
   rw [mB] at h
   by_cases hc:p.code=0
   ·have dY:(p.code==0)=true:=by simpa using hc
    by_cases hs:p.sign 0=[125]
    ·rw [L (fun hh=>hh.2 hs)] at h
     obtain ⟨rfl,rfl⟩:acc=l/\p=q1:=by simpa using h
     have pR:(!(p.sign 0==[125]))=false:=by simp [hs]
     subst bK;refine D ?_;refine V [0] (dN p 0 hp aU) ?_;refine ky ?_;refine D ?_;refine GL.wk (Wk.qz (i:=2) (o:=5) rfl rfl rfl rfl hn) ?_;refine dk ?_;refine V [0] (dM p [125] hp aU) ?_;exact ei
    ·rw [ab ⟨hc,hs⟩] at h
     have pR:(!(p.sign 0==[125]))=true:=by simpa using hs
     cases hb:mS g (.stmt (d+1)) p with
     | none=>rw [hb] at h;cases h
     | some r =>
      obtain ⟨a,p2⟩:=r;rw [hb] at h;simp only at h;have ef:=((Ms g).1 _ _ _ _ hp (fun a d' h=>by cases h) hb).ok hp;refine D ?_;refine V [0] (dN p 0 hp aU) ?_;refine aL (aD 0 5 (.a 5 (.a 6 (.a 7 (.q 8 (.a 9 .nil)))))) ?_;refine ao ?_;refine aI [0] ((C g G).stmt (d+1) p a p2 hp G hb) ?_;refine dC ?_;refine ao ?_;refine nu ?_;refine bx ?_;exact ⟨(g,acc++[a],p2),⟨_,_,Wk.aH ar,_,_,rfl,rfl,by simp [hn],by rw [tj,bK];rfl,by show n+1+g<=f;omega,ef,h⟩,by simp⟩
   ·have dY:(p.code==0)=false:=by simpa using hc
    rw [L (fun hh=>hc hh.1)] at h
    obtain ⟨rfl,rfl⟩:acc=l/\p=q1:=by simpa using h
    subst bK;refine cw ?_;refine D ?_;refine GL.wk (Wk.qz (i:=2) (o:=5) rfl rfl rfl rfl hn) ?_;refine dk ?_;refine V [0] (dM p [125] hp aU) ?_;exact ei
theorem Wa {f:Nat} (C:Nr f) (a:Int) (d:Nat) (p:RS) (t:T) (q:RS) (hp:p.ok) (ak:p.i < p.l.length) (hd:d+(f+1)<=1099511627776) (h:mS (f+1) (.cond a d) p=some (t,q)) :
  GF prog 236 [.loc 0 0,.v (ii a),.v (ii (d:Nat))] [cP p] (.agg (cT t)) [cP q]:=by
 rw [mS] at h
 try simp only at h
 have dL:=(ep ak).ok hp;have cZ:=hp.2;have qN:=(gz dL (s:=[40]) aU).ok dL
 cases he:mX (d+1) (p.next.aW [40]) with
 | none=>rw [he] at h;cases h
 | some r =>
 obtain ⟨e,p1⟩:=r;rw [he] at h;simp only at h;have l8:=(qy qN he).ok qN;have Hn:=(gz l8 (s:=[41]) aU).ok l8
 cases hb:mS f (.block (d+1)) (p1.aW [41]) with
 | none=>rw [hb] at h;cases h
 | some r =>
 obtain ⟨b,p2⟩:=r;rw [hb] at h;simp only at h;have ef:=((Ms f).1 _ _ _ _ Hn (fun a d' h=>by cases h) hb).ok Hn;have XA:=ef.2
 have key:∀ k:Int,(if k=9/\p2.sign 0=fi then match mS f (.block (d+1)) p2.next with
     | none=>none
     | some (b2,q)=>some (one k a [] [e,b,b2],q)
    else some (one k a [] [e,b],p2))=some (t,q)->p.ck=k->(k=9\/k=10)->((p.sign 0==[105,102])=true/\k=9)\/((p.sign 0==[105,102])=false/\k=10):=by
  intro k _ hk _;unfold RS.ck at hk;split at hk
  ·rename_i hs;exact .inl ⟨by rw [hs];rfl,hk.symm⟩
  ·rename_i hs;refine .inr ⟨?_,hk.symm⟩
   cases hq:(p.sign 0==[105,102]) with
   | false=>rfl
   | true=>exact absurd (eq_of_beq hq) hs
 have uR:p.ck=9\/p.ck=10:=by unfold RS.ck;split <;> simp
 have key:=key p.ck h rfl uR;generalize p.ck=k at h key;clear uR
 rcases key with ⟨hs,rfl⟩ | ⟨hs,rfl⟩
 ·by_cases eB:p2.sign 0=fi
  ·rw [ab ⟨rfl,eB⟩] at h
   have aa1:(p2.sign 0==[101,108,115,101])=true:=by rw [eB];rfl
   have ov:=(gR eB aU).1;have abl:=(kx eB aU).ok ef
   cases eA:mS f (.block (d+1)) p2.next with
   | none=>rw [eA] at h;cases h
   | some r =>
   obtain ⟨b2,p3⟩:=r;rw [eA] at h;cases h;refine ah func236 ntmps236 ?_;refine V [0] (dN p 0 hp aU) ?_;refine V [0] (dM p.next [40] dL aU) ?_;refine V [0] (zJ (d+1) _ e p1 qN G he) ?_;refine V [0] (dM p1 [41] l8 aU) ?_;refine aL (aD 0 4 (.a 4 (.a 5 (.q 6 .nil)))) ?_;refine ao ?_;refine aI [0] (C.block (d+1) _ b p2 Hn G hb) ?_;refine qY ?_;refine bx ?_;refine V [0] (dN p2 0 ef aU) ?_;refine fR [0] (C.block (d+1) _ b2 q abl G eA) ?_;refine fk ?_;refine D ?_;refine GL.wk (Wk.jD (t:=57) rfl rfl rfl rfl) ?_;refine dk ?_;refine V [] (iH 9 a [] [e,b,b2] _ pL) ?_;exact ei
  ·rw [L (fun hh=>eB hh.2)] at h
   have aa1:(p2.sign 0==[101,108,115,101])=false:=by
    cases hq:(p2.sign 0==[101,108,115,101]) with
    | false=>rfl
    | true=>exact absurd (eq_of_beq hq) eB
   cases h;refine ah func236 ntmps236 ?_;refine V [0] (dN p 0 hp aU) ?_;refine V [0] (dM p.next [40] dL aU) ?_;refine V [0] (zJ (d+1) _ e p1 qN G he) ?_;refine V [0] (dM p1 [41] l8 aU) ?_;refine aL (aD 0 4 (.a 4 (.a 5 (.q 6 .nil)))) ?_;refine ao ?_;refine aI [0] (C.block (d+1) _ b q Hn G hb) ?_;refine qY ?_;refine bx ?_;refine V [0] (dN q 0 ef aU) ?_;refine GL.wk (Wk.jD (t:=57) rfl rfl rfl rfl) ?_;refine dk ?_;refine V [] (iH 9 a [] [e,b] _ pL) ?_;exact ei
 ·rw [L (fun hh=>by cases hh.1)] at h;cases h;refine ah func236 ntmps236 ?_;refine V [0] (dN p 0 hp aU) ?_;refine V [0] (dM p.next [40] dL aU) ?_;refine V [0] (zJ (d+1) _ e p1 qN G he) ?_;refine V [0] (dM p1 [41] l8 aU) ?_;refine aL (aD 0 4 (.a 4 (.a 5 (.q 6 .nil)))) ?_;refine ao ?_;refine aI [0] (C.block (d+1) _ b q Hn G hb) ?_;refine qY ?_;refine bx ?_;refine GL.wk (Wk.jD (t:=57) rfl rfl rfl rfl) ?_;refine dk ?_;refine V [] (iH 10 a [] [e,b] _ pL) ?_;exact ei
theorem wE {s t:ae} (h:¬ s=t):(s==t)=false:=by
 cases hq:(s==t) with
 | false=>rfl
 | true=>exact absurd (eq_of_beq hq) h
theorem YH {f:Nat} (C:Nr f) (d:Nat) (p:RS) (t:T) (q:RS) (hp:p.ok) (hd:d+(f+1)<=1099511627776) (h:mS (f+1) (.stmt d) p=some (t,q)) :
  GF prog 192 [.loc 0 0,.v (ii (d:Nat))] [cP p] (.agg (cT t)) [cP q]:=by
 rw [mS] at h;have l9:=(pK hp d).ok hp;have xT:=vK p d hp;generalize p.deep d=p1 at *
 try simp only at h
 obtain ⟨Fh,cZ⟩:=id l9;generalize oE:p1.place=at_ at h;refine ah func192 ntmps192 ?_;refine V [0] xT ?_;refine V [0] (mg p1 l9) ?_;refine fR [0] (dN p1 0 l9 aU) ?_;rw [oE]
 by_cases F:p1.sign 0=ja
 ·rw [ab F] at h
  have e1:(p1.sign 0==[118,97,114])=true:=by rw [F];rfl
  have ak:=(gR F aU).1;have hn:=(kx F aU).ok l9;have eK:=(sK hn).ok hn;have lp:=(gz eK (s:=[61]) aU).ok eK
  cases he:mX (d+1) (p1.next.name.2.aW [61]) with
  | none=>rw [he] at h;cases h
  | some r =>
  obtain ⟨e,p2⟩:=r;rw [he] at h;cases h;have ef:=(qy lp he).ok lp;refine D ?_;refine V [0] (zH p1.next hn) ?_;refine V [0] (dM _ [61] eK aU) ?_;refine V [0] (zJ (d+1) _ e p2 lp G he) ?_;refine V [0] (dM p2 [59] ef aU) ?_;refine cD ?_;refine D ?_;refine V [] (iH 13 at_ p1.next.name.1 [e] _ pL) ?_;exact ei
 rw [L F] at h;have e1:(p1.sign 0==[118,97,114])=false:=wE F
 by_cases I:p1.sign 0=eP\/p1.sign 0=en
 ·rw [ab I] at h
  have e2:(p1.sign 0==[105,102])=true\/((p1.sign 0==[105,102])=false/\(p1.sign 0==[119,104,105,108,101])=true):=by
   rcases I with I | I
   ·exact .inl (by rw [I];rfl)
   ·exact .inr ⟨by rw [I];rfl,by rw [I];rfl⟩
  have ak:p1.i < p1.l.length:=by
   rcases I with I | I
   ·exact (gR I aU).1
   ·exact (gR I aU).1
  rcases e2 with e2 | ⟨e2,e3⟩
  all_goals
   refine D ?_;refine V [0] (C.cond at_ d p1 t q l9 ak G h) ?_;exact ei
 rw [L I] at h
 have e2:(p1.sign 0==[105,102])=false:=wE fun hh=>I (.inl hh)
 have e3:(p1.sign 0==[119,104,105,108,101])=false:=wE fun hh=>I (.inr hh)
 by_cases h4:p1.sign 0=dV
 ·rw [ab h4] at h
  have e4:(p1.sign 0==[114,101,116,117,114,110])=true:=by rw [h4];rfl
  have ak:=(gR h4 aU).1;have hn:=(kx h4 aU).ok l9
  cases he:mX (d+1) p1.next with
  | none=>rw [he] at h;cases h
  | some r =>
  obtain ⟨e,p2⟩:=r;rw [he] at h;cases h;have ef:=(qy hn he).ok hn;refine D ?_;refine V [0] (zJ (d+1) _ e p2 hn G he) ?_;refine V [0] (dM p2 [59] ef aU) ?_;refine cD ?_;refine D ?_;refine V [] (iH 11 at_ [] [e] _ pL) ?_;exact ei
 rw [L h4] at h;have e4:(p1.sign 0==[114,101,116,117,114,110])=false:=wE h4
 by_cases h5:p1.code=0/\p1.oZ=true/\p1.sign 1=[61]
 ·rw [ab h5] at h;obtain ⟨hc,Hm,iQ⟩:=h5
  have dY:(p1.code==0)=true:=by simpa using hc
  have aco:(p1.sign 1==[61])=true:=by rw [iQ];rfl
  unfold RS.oZ at Hm
  cases ht:p1.l[p1.i]? with
  | none=>rw [ht] at Hm;cases Hm
  | some tk =>
  rw [ht] at Hm
  have hk:(tk.kind==2)=true:=by simpa using Hm
  have ak:=(bo ht).1
  have Rv:decide ((p1.i:Int) < ((p1.l.map dQ).length:Int))=true:=by simpa using ak
  have hr:=lS ht;have eK:=(sK l9).ok l9;have lp:=(gz eK (s:=[61]) aU).ok eK
  cases he:mX (d+1) (p1.name.2.aW [61]) with
  | none=>rw [he] at h;cases h
  | some r =>
  obtain ⟨e,p2⟩:=r;rw [he] at h;cases h;have ef:=(qy lp he).ok lp;refine D ?_;refine aL (aD 0 33 (.a 33 (.q 34 (.q 35 .nil)))) ?_;refine ao ?_;refine b6 [0] (dN p1 1 l9 aU) ?_;refine D ?_;refine V [0] (zH p1 l9) ?_;refine V [0] (dM _ [61] eK aU) ?_;refine V [0] (zJ (d+1) _ e p2 lp G he) ?_;refine V [0] (dM p2 [59] ef aU) ?_;refine cD ?_;refine D ?_;refine V [] (iH 7 at_ p1.name.1 [e] _ pL) ?_;exact ei
 rw [L h5] at h
 cases he:mX (d+1) p1 with
 | none=>rw [he] at h;cases h
 | some r =>
 obtain ⟨e,p2⟩:=r;rw [he] at h;simp only at h;have ef:=(qy l9 he).ok l9;have XA:=ef.2
 have Hx:(p1.code==0)=false\/((p1.code==0)=true/\p1.l.length<=p1.i)\/((p1.code==0)=true/\∃ tk,p1.l[p1.i]?=some tk/\((tk.kind==2)=false\/((tk.kind==2)=true/\(p1.sign 1==[61])=false))):=by
  by_cases hc:p1.code=0
  ·refine .inr ?_
   have dY:(p1.code==0)=true:=by simpa using hc
   cases ht:p1.l[p1.i]? with
   | none=>exact .inl ⟨dY,qG ht⟩
   | some tk =>
    refine .inr ⟨dY,tk,rfl,?_⟩
    by_cases hk:tk.kind=2
    ·refine .inr ⟨by simpa using hk,wE fun h61=>h5 ⟨hc,?_,h61⟩⟩;unfold RS.oZ;rw [ht];simpa using hk
    ·exact .inl (by simpa using hk)
  ·exact .inl (by simpa using hc)
 refine D ?_;refine GW.join (fun fr Γ=>fr=[.loc 0 0,.v (ii (d:Nat)),U,U,.loc 1 0,.v (ii at_),U,U,U,U,U,U,U,U,U,U,U,U,U,U,U,U,U,U,U,U,U,U,U,U,U,U,U,U,U,U,U,U,U,U,U,U,U,U,U,U,U,U,U,U,U,U,U,U,U,U,U,U,U,U,U,U,U,U,U,U,U,U,U,U,U,U,U,U,U,U,U,U,U,U,U,U,U,U,U,U,U,U,U,U,U,U,U,U,U,U,U,U,U,U,U,U,U,U,U,.v (.bool false),U,U,U,U,U,U,U,U,U,U,U,U,U,U,U,U,U,U,U,U,U,U,U,U,U,U,U,U,U,U,U,U,U,U,U,U,U,U,U,U,U,U,U,U,U,U,U,U,U,U,U,U,U,U,U,U,U,U,U,U,U,U,U,U,U]/\Γ=[cP p1,.box 65 zT]) ?_ ?_
 ·rcases Hx with dY | ⟨dY,mV⟩ | ⟨dY,tk,ht,hk | ⟨hk,iQ⟩⟩
  ·refine aL (aD 0 33 (.a 33 (.q 34 (.q 35 .nil)))) ?_;refine ao ?_;exact ba ⟨_,_,Wk.aH ar,rfl,rfl⟩
  ·have Rv:decide ((p1.i:Int) < ((p1.l.map dQ).length:Int))=false:=by simpa using mV
   refine aL (aD 0 33 (.a 33 (.q 34 (.q 35 .nil)))) ?_;refine ao ?_;exact ba ⟨_,_,Wk.aH ar,rfl,rfl⟩
  ·have ak:=(bo ht).1
   have Rv:decide ((p1.i:Int) < ((p1.l.map dQ).length:Int))=true:=by simpa using ak
   have hr:=lS ht;refine aL (aD 0 33 (.a 33 (.q 34 (.q 35 .nil)))) ?_;refine ao ?_;exact ba ⟨_,_,Wk.aH ar,rfl,rfl⟩
  ·have ak:=(bo ht).1
   have Rv:decide ((p1.i:Int) < ((p1.l.map dQ).length:Int))=true:=by simpa using ak
   have hr:=lS ht;refine aL (aD 0 33 (.a 33 (.q 34 (.q 35 .nil)))) ?_;refine ao ?_;refine b6 [0] (dN p1 1 l9 aU) ?_;exact ba ⟨_,_,Wk.aH (by repeat (first | exact uF.nil | refine uF.U ?_ | refine uF.eq rfl ?_ | refine uF.eq (by rw [iQ]) ?_)),rfl,rfl⟩
 ·rintro _ _ ⟨rfl,rfl⟩;refine D ?_;refine V [0] (zJ (d+1) _ e p2 l9 G he) ?_
  by_cases k3:e.n.kind=3
  ·have k3':(e.n.kind==3)=true:=by simpa using k3
   by_cases ka:e.n.at_=at_
   ·have ka':(e.n.at_==at_)=true:=by simpa using ka
    by_cases ks:p2.sign 0=[61]
    ·have ks':(p2.sign 0==[61])=true:=by rw [ks];rfl
     rw [ab ⟨k3,ka,ks⟩] at h;have ak:=(gR ks aU).1;have hn:=(kx ks aU).ok ef
     cases hk:e.kids with
     | nil=>rw [hk] at h;cases h
     | cons a rest =>
     cases hv:mX (d+1) p2.next with
     | none=>rw [hk,hv] at h;cases h
     | some r =>
     obtain ⟨v,p3⟩:=r;rw [hk,hv] at h;cases h;have yL:=(qy hn hv).ok hn
     have hr:(aQ (a::rest))[0]?=some (cT a):=by simp [aQ,sn]
     refine D ?_;refine V [0] (dN p2 0 ef aU) ?_;refine V [0] (zJ (d+1) _ v p3 hn G hv) ?_;refine V [0] (dM p3 [59] yL aU) ?_;refine aL (aD 0 9 (.a 9 (.a 10 (.a 11 .nil)))) ?_;refine ao ?_;refine dC ?_;refine ao ?_;refine yB [] (iH 8 at_ e.n.s [a,v] _ pL) ?_;refine IL ?_;refine ao ?_;exact kH
    ·have ks':(p2.sign 0==[61])=false:=wE ks;rw [L (fun hh=>ks hh.2.2)] at h;cases h;refine D ?_;refine V [0] (dN p2 0 ef aU) ?_;refine V [0] (dM p2 [59] ef aU) ?_;refine cD ?_;refine D ?_;refine V [] (iH 12 at_ [] [e] _ pL) ?_;exact ei
   ·have ka':(e.n.at_==at_)=false:=by simpa using ka
    rw [L (fun hh=>ka hh.2.1)] at h;cases h;refine D ?_;refine V [0] (dM p2 [59] ef aU) ?_;refine cD ?_;refine D ?_;refine V [] (iH 12 at_ [] [e] _ pL) ?_;exact ei
  ·have k3':(e.n.kind==3)=false:=by simpa using k3
   rw [L (fun hh=>k3 hh.1)] at h;cases h;refine D ?_;refine V [0] (dM p2 [59] ef aU) ?_;refine cD ?_;refine D ?_;refine V [] (iH 12 at_ [] [e] _ pL) ?_;exact ei
theorem sds (f:Nat):Nr f:=by
 induction f using Nat.strongRecOn with
 | _ f ih =>
  cases f with
  | zero=>exact ⟨fun d p t q _ _ h=>by simp [mS] at h,fun d p t q _ _ h=>by simp [mS] at h,fun a d p t q _ _ _ h=>by simp [mS] at h⟩
  | succ f =>
   have C:=ih f (Nat.lt_succ_self f)
   have Cs:∀ f',f'<=f->Nr f':=fun f' h=>ih f' (Nat.lt_succ_of_le h)
   exact ⟨fun d p t q hp hd h=>Uy Cs d p t q hp hd h,fun d p t q hp hd h=>YH C d p t q hp hd h,fun a d p t q hp hl hd h=>Wa C a d p t q hp hl hd h⟩
end Go.Xg
namespace Go.Xg
open GV (U)
open Go.RowKit Go.Xw Go.Proofs Tryz
open Go.Xp (Tok Nd T bH one levels Ar)
open Go.Sp
attribute [local irreducible] GW GL GO YG GC GA be bg
def ax (n:Nd):List GV:=[.v (ii n.kind),.v (ii n.at_),.v (ii n.n),.v (sv n.s),ints n.kids]
def au (f:Go.Sp.Fn):List GV:=[.v (sv f.name),strs f.params,.v (ii f.body)]
def az (a:Ar):List GV:=[.v (sv a.name),.v (ii a.size)]
abbrev av (p:Src):List GV:=[strs p.globals,.sl 2 (p.arrays.map az),.sl 3 (p.fns.map au),.sl 5 (p.nodes.map ax)]
theorem Jh (k:Int):GF prog 258 [.v (ii k)] [] (.v (.bool (oa k))) []:=by
 unfold oa;refine cL func258 ntmps258 ?_
 cases h:decide ((1:Int)<=k)
 all_goals
  exact ay
theorem Ji (k:Int):GF prog 226 [.v (ii k)] [] (.v (.bool (iR k))) []:=by
 unfold iR;refine cL func226 ntmps226 ?_
 cases h:decide ((7:Int)<=k)
 all_goals
  exact ay
theorem u6 (s:ae):GF prog 225 [.v (sv s)] [] (.v (.bool (eT s))) []:=by
 refine ah func225 ntmps225 ?_;refine V [] kY ?_;refine GW.range (levels.map fun l=>[strs l]).length (fun k fr Γ=>fr=[.v (sv s),U,U,U,U,.sl 1 (levels.map fun l=>[strs l]),.v (ii ((levels.map fun l=>[strs l]).length:Int)),.v (ii (k:Nat)),U,U,U,U,U,U,U]/\Γ=[]/\((levels.take k).any fun l=>l.contains s)=false) ?_ aU ?_ ?_ ?_
 ·exact kV
 ·exact jd
 ·rintro k _ _ hk ⟨rfl,rfl,hf⟩
  have hk:k < levels.length:=by simpa using hk
  have hx:levels[k]?=some levels[k]:=by simp [hk]
  have hr:(levels.map fun l=>[strs l])[k]?=some [strs levels[k]]:=by simp [hk]
  have Bd:levels[k].length<=1099511627776:=by
   have:∀ l∈levels,l.length<=1099511627776:=by decide
   exact this _ (getElem_mem hk)
  generalize levels[k]=x at *;have hh:=iG x s Bd
  cases hb:x.contains s with
  | true =>
   rw [hb] at hh
   have ha:eT s=true:=by
    unfold eT;rw [nX];exact ⟨x,bA hx,hb⟩
   refine D ?_;refine V [] hh ?_;refine cH ?_;rw [ha];exact ⟨rfl,rfl⟩
  | false =>
   rw [hb] at hh;refine D ?_;refine V [] hh ?_;exact ⟨rfl,rfl,_,_,Wk.aH ar,rfl,rfl,by rw [cq,hx,List.any_append,hf];simp only [Option.toList,List.any_cons,List.any_nil,hb];rfl⟩
 ·rintro _ _ ⟨rfl,rfl,hf⟩
  have hf:eT s=false:=by
   rw [kz (by simp)] at hf;exact hf
  refine D ?_;refine cH ?_;rw [hf];exact ⟨rfl,rfl⟩
theorem df {l:List T} {i:Nat} {t:T} (h:l[i]?=some t):(aQ l)[i]?=some (cT t):=by
 induction l generalizing i with
 | nil=>simp at h
 | cons a l ih =>
  cases i with
  | zero=>cases h;simp [aQ,sn]
  | succ i=>simpa [aQ] using ih (by simpa using h)
theorem gi (t:T) (m:Nat) (hl:t.kids.length<=1099511627776):GF prog 224 [.agg (cT t),.v (ii (m:Nat))] [] (.v (.bool (bI m 0 t.kids))) []:=by
 refine ah func224 ntmps224 ?_;refine GW.range (aQ t.kids).length (fun k fr Γ=>fr=[U,.v (ii (m:Nat)),U,U,U,U,U,U,.sl 6 (aQ t.kids),.v (ii ((aQ t.kids).length:Int)),.v (ii (k:Nat)),U,U,U,U,U,U,U,U,U,U,U,U,U,U,U,U,U,U,U,U,U,U,U,U,U,U]/\Γ=[]/\bI m k (t.kids.drop k)=bI m 0 t.kids) ?_ (by rw [aX];exact hl) ?_ ?_ ?_
 ·exact ⟨_,_,(Wk.cut (n:=0) (aE _) rfl).trans (Wk.aH ar),rfl,rfl,rfl⟩
 ·exact jd
 ·rintro k _ _ hk ⟨rfl,rfl,hf⟩
  have hk:k < t.kids.length:=by rw [aX] at hk;exact hk
  have hx:t.kids[k]?=some t.kids[k]:=by simp [hk]
  have hr:=df hx;rw [ju hk,bI] at hf;generalize t.kids[k]=x at *;have he:=Jh x.n.kind
  by_cases hm:k < m
  ·have hm1:decide ((k:Int) < (m:Int))=true:=by simpa using hm
   have A9:decide ((m:Int)<=(k:Int))=false:=by simpa using hm
   rw [ab hm] at hf
   cases hb:oa x.n.kind with
   | true =>
    rw [hb] at he hf;refine D ?_;refine V [] he ?_;exact ⟨rfl,rfl,_,_,(Wk.cut (n:=0) (aE _) rfl).trans (Wk.aH ar),rfl,rfl,by simpa using hf⟩
   | false =>
    rw [hb] at he hf;refine D ?_;refine V [] he ?_;refine cH ?_;rw [<-hf];exact ⟨rfl,rfl⟩
  ·have hm1:decide ((k:Int) < (m:Int))=false:=by simp;omega
   have A9:decide ((m:Int)<=(k:Int))=true:=by simp;omega
   rw [L hm] at hf
   cases hb:(x.n.kind==14) with
   | true =>
    rw [hb] at hf
    have bD:(x.n.kind != 14)=false:=by simp only [bne,hb];rfl
    refine D ?_;exact ⟨rfl,rfl,_,_,(Wk.cut (n:=0) (aE _) rfl).trans (Wk.aH ar),rfl,rfl,by simpa using hf⟩
   | false =>
    rw [hb] at hf
    have bD:(x.n.kind != 14)=true:=by simp only [bne,hb];rfl
    refine D ?_;refine cH ?_;rw [<-hf];exact ⟨rfl,rfl⟩
 ·rintro _ _ ⟨rfl,rfl,hf⟩;rw [aX,List.drop_length,bI] at hf;refine D ?_;refine cH ?_;rw [<-hf];exact ⟨rfl,rfl⟩
theorem jL {l:List Nd} {i:Nat} {n:Nd} (h:l[i]?=some n):(l.map ax)[i]?=some (ax n):=by rw [aP,h];rfl
theorem sG {l:List Int} {i:Nat} {n:Int} (h:l[i]?=some n):(l.map fun i=>[GV.v (ii i)])[i]?=some [.v (ii n)]:=by rw [aP,h];rfl
theorem Gh (p:Src) (hk:∀ n∈p.nodes,n.kids.length<=1000000000000):∀ (f a:Nat) (t:T),sub p.nodes f a=some t->GF prog 84 [.agg (av p),.v (ii (a:Nat))] [] (.agg (cT t)) []:=by
 intro f
 induction f using Nat.strongRecOn with
 | _ f ih =>
 intro a t h
 cases f with
 | zero=>simp [sub] at h
 | succ f =>
 rw [sub] at h
 cases hn:p.nodes[a]? with
 | none=>rw [hn] at h;cases h
 | some n =>
 rw [hn] at h;simp only at h
 cases hs:pX p.nodes f n.kids [] with
 | none=>rw [hs] at h;cases h
 | some l =>
 rw [hs] at h;cases h;have hr:=jL hn;have fH:=hk n (bA hn);refine ah func84 ntmps84 ?_;refine GW.wk (Wk.wo (i:=2) (o:=5) 65 6 rfl rfl) ?_
 refine GW.range (n.kids.map fun i=>[GV.v (ii i)]).length (fun k fr Γ=>∃ rows acc g,fr=[U,.v (ii (a:Nat)),.loc 0 0,U,.loc 1 0,.loc 2 0,U,U,U,U,U,U,U,U,U,U,U,U,U,ints n.kids,.v (ii ((n.kids.map fun i=>[GV.v (ii i)]).length:Int)),.v (ii (k:Nat)),U,U,U,U,U,U,U,U,U,U,U,U,U] /\
   Γ=[.box 33 (av p),.box 65 zT,.box 65 [.v (ii n.kind),.v (ii n.at_),.v (ii n.n),.v (sv n.s),ints n.kids,.vec 3 k],.vec 65 6 0 rows] /\
   rows.length=k/\rows=aQ acc/\g<=f/\pX p.nodes g (n.kids.drop k) acc=some l) ?_ (by simp;omega) ?_ ?_ ?_
 ·exact ⟨_,_,Wk.aH ar,[],[],f,rfl,rfl,rfl,rfl,aE _,hs⟩
 ·rintro k _ _ ⟨_,_,_,rfl,rfl,_⟩;exact dK
 ·rintro k _ _ ak ⟨rows,acc,g,rfl,rfl,oY,bK,hg,h⟩
  have ak:k < n.kids.length:=by simpa using ak
  have hx:n.kids[k]?=some n.kids[k]:=by simp [ak]
  rw [ju ak] at h;generalize n.kids[k]=x at *
  cases g with
  | zero=>simp [pX] at h
  | succ g =>
  rw [pX] at h
  by_cases sd:x < 0
  ·rw [ab sd] at h;cases h
  rw [L sd] at h
  cases cj:sub p.nodes g x.toNat with
  | none=>rw [cj] at h;cases h
  | some t =>
  rw [cj] at h;simp only at h;have Ao:=ih g G x.toNat t cj;rw [Int.toNat_of_nonneg G] at Ao;have wY:=sG hx;refine D ?_;refine aL (aD 0 4 (.a 4 (.a 5 (.a 6 (.q 7 (.a 8 .nil)))))) ?_;refine ao ?_;refine aI [] Ao ?_;refine dC ?_;refine ao ?_;refine nu ?_;refine bx ?_;exact ⟨rfl,rfl,_,_,Wk.aH ar,_,acc++[t],g,rfl,rfl,by rw [aO,oY];rfl,by rw [tj,bK];rfl,by omega,h⟩
 ·rintro _ _ ⟨rows,acc,g,rfl,rfl,oY,bK,hg,h⟩;rw [bP,List.drop_length] at h
  have mz:acc=l:=by cases g <;> (rw [pX] at h;cases h;rfl)
  subst mz;subst bK;refine ba (GW.wk (Wk.qz (i:=2) (o:=5) rfl rfl rfl rfl oY) ?_);exact kH
end Go.Xg
namespace Go.Xg
open Go.RowKit Go.Xw Go.Proofs Go.WideShapes Go.Deep
open Go.Xp (Nd Ar)
open Go.Sp (Src)
open Go.Im (Small xD)
def flat (v:Value):Prop:=∀ a n c,v≠.slice a n c
def xC (W:World) (v:Value) (xs:List Value):Prop:=∃ a c,v=.slice a xs.length c/\(xs=[]\/∃ b o,a=some ⟨b,o,none⟩/\xs.length<=c/\∀ i x,xs[i]?=some x->ia W.heap b (o+i)=some x/\flat x)
theorem xC.uniq {W:World} {v:Value} {xs ys:List Value} (h:xC W v xs) (k:xC W v ys):xs=ys:=by
 obtain ⟨a,c,F,I⟩:=h;obtain ⟨a',c',k1,k2⟩:=k;rw [F] at k1
 injection k1 with e1 e2 e3
 subst e1 e3
 rcases I with rfl | ⟨b,o,h3,h4,h5⟩
 ·exact (List.eq_nil_of_length_eq_zero (by simpa using e2.symm)).symm
 ·rcases k2 with rfl | ⟨b',o',k3,k4,k5⟩
  ·exact List.eq_nil_of_length_eq_zero (by simpa using e2)
  ·rw [h3] at k3;cases k3;apply ext_getElem e2;intro i hi hj;have a1:=(h5 i _ (getElem?_eq_getElem hi)).1;have a2:=(k5 i _ (getElem?_eq_getElem hj)).1;rw [a1] at a2;exact Option.some.inj a2
open Classical in
noncomputable def KW (W:World):Fz:=fun b o=>match ia W.heap b o with
 | none=>none
 | some v=>if ∃ a n c,v=.slice a n c then (if h:∃ xs,xC W v xs then some (.sl 1 (h.choose.map fun x=>[.v x])) else none) else some (.v v)
theorem mQ {W:World} {b o:Nat} {v:Value} (h:ia W.heap b o=some v) (hf:flat v):KW W b o=some (.v v):=by
 unfold KW;rw [h];simp only;rw [if_neg (by rintro ⟨a,n,c,e⟩;exact hf a n c e)]
theorem S9 {W:World} {b o:Nat} {v:Value} {xs:List Value} (h:ia W.heap b o=some v) (hx:xC W v xs):KW W b o=some (.sl 1 (xs.map fun x=>[.v x])):=by
 have hs:∃ a n c,v=.slice a n c:=by obtain ⟨a,c,e,_⟩:=hx;exact ⟨_,_,_,e⟩
 have hex:∃ xs,xC W v xs:=⟨xs,hx⟩;unfold KW;rw [h];simp only;rw [if_pos hs,dif_pos hex,hex.choose_spec.uniq hx]
theorem P1 {W:World} {v:Value} {xs:List Value} (hx:xC W v xs) (β:Bt):Rel (KW W) β v (.sl 1 (xs.map fun x=>[GV.v x])):=by
 obtain ⟨a,c,rfl,h⟩:=hx
 rcases h with rfl | ⟨b,o,rfl,hc,mI⟩
 ·exact .sl0 a c 1
 ·have:=Rel.sl (K:=KW W) (β:=β) b o c 1 (xs.map fun x=>[GV.v x]) (fun i r hr=>by
   rw [getElem?_map] at hr
   cases hi:xs[i]? with
   | none=>rw [hi] at hr;cases hr
   | some x =>
    rw [hi] at hr;cases hr;obtain ⟨F,I⟩:=mI i x hi;refine ⟨rfl,fun j g hg=>?_⟩
    cases j with
    | zero=>cases hg;rw [Nat.mul_one,Nat.add_zero];exact mQ F I
    | succ j=>simp at hg) (by rw [length_map];exact hc)
  rw [length_map] at this;exact this
theorem Y2 (W:World):lK (KW W) W:=fun b o g h=>by
 unfold KW at h
 cases hc:ia W.heap b o with
 | none=>rw [hc] at h;cases h
 | some v =>
  rw [hc] at h;simp only at h;split at h
  ·split at h
   ·rename_i hex;cases h;exact ⟨rfl,v,rfl,P1 hex.choose_spec _⟩
   ·cases h
  ·cases h;exact ⟨rfl,v,rfl,.v v⟩
theorem Sl {W:World} {v:Value} {k:Nat} {rows:List (List GV)} {a:Option Addr} {n c:Nat} (β:Bt) (hv:v=.slice a n c) (hn:rows.length=n)
  (h:n=0\/∃ b o,a=some ⟨b,o,none⟩/\n<=c/\∀ i r,rows[i]?=some r->r.length=k/\∀ j g,r[j]?=some g->KW W b (o+i * k+j)=some g):Rel (KW W) β v (.sl k rows):=by
 subst hv hn
 rcases h with h | ⟨b,o,rfl,hc,hr⟩
 ·have:=List.eq_nil_of_length_eq_zero h;subst this;exact .sl0 a c k
 ·exact .sl b o c k rows hr hc
theorem BG {W:World} {a:Addr} {n:Nat} {v:Value} (h:W.cell? (a.add n)=some v):ia W.heap a.block (a.off+n)=some v:=by
 unfold Addr.add at h;split at h
 ·rename_i h0;subst h0;obtain ⟨b,o,s⟩:=a;have hs:=World.cell?_spot h;simp only at hs;subst hs;rw [fP] at h;exact h
 ·obtain ⟨b,o,s⟩:=a;simp only at h;rw [fP] at h;exact h
theorem BB {W:World} {a:Addr} {v:Value} (h:W.cell? (a.add 0)=some v):a.spot=none:=by
 have:=World.cell?_spot h;unfold Addr.add at this;rw [if_pos rfl] at this;exact this
theorem sX {α:Type} {Q:Nat->α->Prop}:∀ {n:Nat},(∀ i,i < n->∃ x,Q i x)->∃ l:List α,l.length=n/\∀ i x,l[i]?=some x->Q i x
 | 0,_=>⟨[],rfl,fun i x h=>by simp at h⟩
 | n+1,h=>by
  obtain ⟨l,F,I⟩:=sX (n:=n) fun i hi=>h i G
  obtain ⟨x,hx⟩:=h n G;refine ⟨l++[x],by simp [F],fun i y hi=>?_⟩
  by_cases vD:i < n
  ·rw [List.getElem?_append_left G] at hi;exact I i y hi
  ·have ak:=(List.getElem?_eq_some_iff.1 hi).1;rw [length_append,length_cons,length_nil] at ak
   have:i=n:=by omega
   subst this;rw [List.getElem?_append_right G,F,Nat.sub_self] at hi
   cases hi;exact hx
theorem max_le {n:Nat} (h:n<=maxLen):n<=9223372036854775807:=by unfold maxLen at h;omega
section
variable {H:Type} {enc:TypeId × Value->H} {P:Program} {W:World}
theorem H4 {t e:TypeId} {n:Nat} {v:Value} {y:DataW H × List MemPlace} (ht:P.underlying t=some (.slice e)) (he:P.underlying e=some .string) (hc:P.cellsOf e=1) (h:DataW.trod enc P W 0 (fun _=>true) true n t [v]=some y) :
  ∃ l:List ae,xC W v (l.map sv)/\l.length<=9223372036854775807/\∀ s∈l,s.length<=9223372036854775807:=by
 rcases open_slice1 ht hc h with ⟨gL,_⟩ | ⟨a,len,cap,m,n',acw,acx,Pl,gL,_,hl,hm,tu,_,hx⟩
 ·injection gL with hv;subst hv
  exact ⟨[],⟨none,0,rfl,.inl rfl⟩,Nat.zero_le _,fun s h=>by cases h⟩
 ·injection gL with hv _;subst hv
  simp only [if_true] at tu
  obtain ⟨l,F,I⟩:=sX (n:=len) (Q:=fun i (s:ae)=>W.cell? (a.add i)=some (sv s)/\s.length<=9223372036854775807) (fun i hi=>by
   obtain ⟨c1,c2⟩:=hx i G;obtain ⟨s,hs,_,hz⟩:=DataW.trod_string he c2
   injection hs with hs _
   rw [hs] at c1
   exact ⟨s.data.toList,by rw [<-AD];exact c1,max_le hz⟩)
  refine ⟨l,⟨some a,cap,by rw [length_map,F],?_⟩,by rw [F];exact max_le (Nat.le_trans hl hm),fun s hs=>?_⟩
  ·by_cases h0:len=0
   ·have:l=[]:=List.eq_nil_of_length_eq_zero G;subst this;exact .inl rfl
   ·refine .inr ⟨a.block,a.off,?_,by rw [length_map,F];exact hl,fun i x hi=>?_⟩
    ·have zu:l[0]?=some (l[0]'G):=getElem?_eq_getElem _;have:=BB (I 0 _ zu).1;obtain ⟨b,o,s⟩:=a;simp only at this;rw [this]
    ·rw [getElem?_map] at hi
     cases uS:l[i]? with
     | none=>rw [uS] at hi;cases hi
     | some s =>
      rw [uS] at hi;cases hi;exact ⟨BG (I i s uS).1,fun a n c e=>by cases e⟩
  ·obtain ⟨i,hi⟩:=List.getElem?_of_mem hs;exact (I i s hi).2
theorem Sg {t e:TypeId} {n:Nat} {v:Value} {y:DataW H × List MemPlace} (ht:P.underlying t=some (.slice e)) (he:P.underlying e=some (.int .i64)) (hc:P.cellsOf e=1) (h:DataW.trod enc P W 0 (fun _=>true) true n t [v]=some y) :
  ∃ l:List Int,xC W v (l.map ii)/\l.length<=9223372036854775807:=by
 rcases open_slice1 ht hc h with ⟨gL,_⟩ | ⟨a,len,cap,m,n',acw,acx,Pl,gL,_,hl,hm,tu,_,hx⟩
 ·injection gL with hv;subst hv
  exact ⟨[],⟨none,0,rfl,.inl rfl⟩,Nat.zero_le _⟩
 ·injection gL with hv _;subst hv
  simp only [if_true] at tu
  obtain ⟨l,F,I⟩:=sX (n:=len) (Q:=fun i (z:Int)=>W.cell? (a.add i)=some (ii z)) (fun i hi=>by
   obtain ⟨c1,c2⟩:=hx i G;obtain ⟨z,hs,_,hz⟩:=DataW.trod_int he c2
   injection hs with hs _
   rw [hs] at c1
   exact ⟨z,c1⟩)
  refine ⟨l,⟨some a,cap,by rw [length_map,F],?_⟩,by rw [F];exact max_le (Nat.le_trans hl hm)⟩
  by_cases h0:len=0
  ·have:l=[]:=List.eq_nil_of_length_eq_zero G;subst this;exact .inl rfl
  ·refine .inr ⟨a.block,a.off,?_,by rw [length_map,F];exact hl,fun i x hi=>?_⟩
   ·have zu:l[0]?=some (l[0]'G):=getElem?_eq_getElem _;have:=BB (I 0 _ zu);obtain ⟨b,o,s⟩:=a;simp only at this;rw [this]
   ·rw [getElem?_map] at hi
    cases uS:l[i]? with
    | none=>rw [uS] at hi;cases hi
    | some s =>
     rw [uS] at hi;cases hi;exact ⟨BG (I i s uS),fun a n c e=>by cases e⟩
theorem Ce {α:Type} {t e:TypeId} {fs:Array Field} {k n:Nat} {v:Value} {y:DataW H × List MemPlace} (f:α->List GV) (Q:α->Prop) (β:Bt) (ht:P.underlying t=some (.slice e)) (he:P.underlying e=some (.struct fs)) (eO:oneCellFields P fs=true) (hC:P.cellsOf e=k) (hk:fs.size=k) (A8:0 < k)
  (each:∀ b o,(∀ (j:Nat) (fl:Field),fs[j]?=some fl->∃ v y n,ia W.heap b (o+j)=some v/\DataW.trod enc P W 0 (fun _=>true) true n fl.type [v]=some y)->∃ x,Q x/\(f x).length=k/\∀ j g,(f x)[j]?=some g->KW W b (o+j)=some g)
  (h:DataW.trod enc P W 0 (fun _=>true) true n t [v]=some y):∃ l:List α,Rel (KW W) β v (.sl k (l.map f))/\l.length<=9223372036854775807/\∀ x∈l,Q x:=by
 rcases open_slice ht h with ⟨gL,_⟩ | ⟨a,len,cap,m,n',acx,Pl,gL,_,hl,hm,tu,_,hx⟩
 ·injection gL with hv;subst hv
  exact ⟨[],.sl0 none 0 k,Nat.zero_le _,fun s h=>by cases h⟩
 ·injection gL with hv _;subst hv
  simp only [if_true] at tu
  have mI:∀ i,i < len->∀ (j:Nat) (fl:Field),fs[j]?=some fl->∃ v y n,W.cell? (a.add (i * k+j))=some v/\DataW.trod enc P W 0 (fun _=>true) true n fl.type [v]=some y:=by
   intro i hi j fl hj;obtain ⟨AU,hc,Hv⟩:=hx i G;rw [hC] at hc;obtain ⟨ys,n',CV,hy,hlen,hyl,hf⟩:=DataW.trod_struct he Hv;obtain ⟨_,OJ,oE⟩:=World.cells?_some hc;obtain ⟨ho,vE⟩:=hone_of eO j fl hj;have wV:j < fs.size:=(Array.getElem?_eq_some_iff.1 hj).1;have mI:=oE j G;have hv:AU[j]?=some (AU[j]'G):=getElem?_eq_getElem G;have F:=hf j fl hj;rw [ho,vE] at F
   have Zs:(AU.drop j).take 1=[AU[j]'G]:=by
    rw [List.drop_eq_getElem_cons G];rfl
   rw [Zs] at F;have hys:ys[j]?=some (ys[j]'G):=getElem?_eq_getElem G;refine ⟨_,_,_,?_,F.trans hys⟩;rw [<-Go.Deep.add_add,mI,hv]
  obtain ⟨l,F,I⟩:=sX (n:=len) (Q:=fun i x=>Q x/\(f x).length=k/\∀ j g,(f x)[j]?=some g->KW W a.block (a.off+i * k+j)=some g) (fun i hi =>
   each a.block (a.off+i * k) fun j fl hj=>by
    obtain ⟨v,y,n,c1,c2⟩:=mI i hi j fl hj
    exact ⟨v,y,n,by rw [Nat.add_assoc];exact BG c1,c2⟩)
  refine ⟨l,Sl (n:=len) (c:=cap) β rfl (by rw [length_map,F]) ?_,by rw [F];exact max_le (Nat.le_trans hl hm),fun x hx=>?_⟩
  ·by_cases h0:len=0
   ·exact .inl h0
   ·refine .inr ⟨a.block,a.off,?_,hl,fun i r hr=>?_⟩
    ·obtain ⟨v,y,n,c1,c2⟩:=mI 0 G 0 (fs[0]'G) (Array.getElem?_eq_getElem G);rw [Nat.zero_mul,Nat.add_zero] at c1;have:=BB c1;obtain ⟨b,o,s⟩:=a;simp only at this;rw [this]
    ·rw [getElem?_map] at hr
     cases uS:l[i]? with
     | none=>rw [uS] at hr;cases hr
     | some x =>
      rw [uS] at hr;cases hr;exact (I i x uS).2
  ·obtain ⟨i,hi⟩:=List.getElem?_of_mem hx;exact (I i x hi).1
end
theorem Iz (l:List ae):GV.sl 1 ((l.map sv).map fun x=>[GV.v x])=strs l:=by rw [map_map];rfl
theorem RG (l:List Int):GV.sl 1 ((l.map ii).map fun x=>[GV.v x])=ints l:=by rw [map_map];rfl
theorem wf_i64 {z:Int} (h:(Lit.int .i64 z).wf=true) : -9223372036854775808<=z/\z<=9223372036854775807:=by
 simp only [Lit.wf,Bool.and_eq_true,decide_eq_true_eq] at h
 have F:IntKind.min .i64 = -9223372036854775808:=by decide
 have I:IntKind.max .i64=9223372036854775807:=by decide
 rw [F,I] at h;exact h
theorem wO (z:Int):flat (ii z):=fun a n c e=>by cases e
section
variable {H:Type} {enc:TypeId × Value->H} {W:World}
theorem Sh (β:Bt) {v:Value} {d:DataW H} {ps:List MemPlace} {r:Reach} {b0:Nat} (hv:Value.okWide Tryz.prog W r b0 27 v) (h:DataW.Trod enc Tryz.prog W 0 (fun _=>true) true 27 v d ps) :
  ∃ p:Src,Rel (KW W) β v (.agg (av p))/\Small p 9223372036854775807/\xD p:=by
 obtain ⟨v0,v1,v2,v3,y0,y1,y2,y3,n,rfl,_,_,h0,F,I,h3⟩:=Go.Joins.open_agg4 Tryz.underlying27 (by kernel_rfl) (by kernel_rfl) hv h
 have c9:Tryz.prog.cellsOf 9=1:=by kernel_rfl
 have c3:Tryz.prog.cellsOf 3=1:=by kernel_rfl
 obtain ⟨gs,g1,g2,g3⟩:=H4 Tryz.underlying22 Tryz.underlying9 c9 h0
 obtain ⟨ars,a1,a2,a3⟩:=Ce az (fun x=>x.name.length<=9223372036854775807 /\ -9223372036854775808<=x.size/\x.size<=9223372036854775807) β Tryz.underlying23 Tryz.underlying101 (by kernel_rfl) (k:=2) (by kernel_rfl) rfl G (fun b o hf=>by
  obtain ⟨u0,z0,n0,x0,w0⟩:=hf 0 _ rfl;obtain ⟨u1,z1,n1,x1,w1⟩:=hf 1 _ rfl;obtain ⟨s,hs,_,hz⟩:=DataW.trod_string Tryz.underlying9 w0;obtain ⟨z,iQ,_,Hz⟩:=DataW.trod_int Tryz.underlying3 w1
  injection hs with hs _
  injection iQ with iQ _
  subst hs iQ;refine ⟨⟨s.data.toList,z⟩,⟨max_le hz,wf_i64 Hz⟩,rfl,fun j g hg=>?_⟩
  match j,hg with
  | 0,hg=>cases hg;rw [<-AD];exact mQ x0 fun a n c e=>by cases e
  | 1,hg=>cases hg;exact mQ x1 (wO z)
  | j+2,hg=>simp [az] at hg) F
 obtain ⟨fs,cy,kC,qC⟩:=Ce au (fun x=>x.name.length<=9223372036854775807/\x.params.length<=9223372036854775807/\∀ s∈x.params,s.length<=9223372036854775807) β Tryz.underlying24 Tryz.underlying103 (by kernel_rfl) (k:=3) (by kernel_rfl) rfl G (fun b o hf=>by
  obtain ⟨u0,z0,n0,x0,w0⟩:=hf 0 _ rfl;obtain ⟨u1,z1,n1,x1,w1⟩:=hf 1 _ rfl;obtain ⟨u2,z2,n2,x2,w2⟩:=hf 2 _ rfl;obtain ⟨s,hs,_,hz⟩:=DataW.trod_string Tryz.underlying9 w0;obtain ⟨l,gM,kW,Xl⟩:=H4 Tryz.underlying22 Tryz.underlying9 c9 w1;obtain ⟨z,iQ,_,Hz⟩:=DataW.trod_int Tryz.underlying3 w2
  injection hs with hs _
  injection iQ with iQ _
  subst hs iQ;refine ⟨⟨s.data.toList,l,z⟩,⟨max_le hz,kW,Xl⟩,rfl,fun j g hg=>?_⟩
  match j,hg with
  | 0,hg=>cases hg;rw [<-AD];exact mQ x0 fun a n c e=>by cases e
  | 1,hg=>cases hg;rw [S9 x1 gM,Iz]
  | 2,hg=>cases hg;exact mQ x2 (wO z)
  | j+3,hg=>simp [au] at hg) I
 obtain ⟨ns,k1,k2,k3⟩:=Ce ax (fun x=>(x.s.length<=9223372036854775807/\x.kids.length<=9223372036854775807) /\ -9223372036854775808<=x.n/\x.n<=9223372036854775807) β Tryz.underlying25 Tryz.underlying105 (by kernel_rfl) (k:=5) (by kernel_rfl) rfl G (fun b o hf=>by
  obtain ⟨u0,z0,n0,x0,w0⟩:=hf 0 _ rfl;obtain ⟨u1,z1,n1,x1,w1⟩:=hf 1 _ rfl;obtain ⟨u2,z2,n2,x2,w2⟩:=hf 2 _ rfl;obtain ⟨u3,z3,n3,x3,w3⟩:=hf 3 _ rfl;obtain ⟨u4,z4,n4,x4,w4⟩:=hf 4 _ rfl;obtain ⟨i0,e0,_,_⟩:=DataW.trod_int Tryz.underlying3 w0;obtain ⟨i1,e1,_,_⟩:=DataW.trod_int Tryz.underlying3 w1;obtain ⟨i2,e2,_,q2⟩:=DataW.trod_int Tryz.underlying3 w2;obtain ⟨s,hs,_,hz⟩:=DataW.trod_string Tryz.underlying9 w3;obtain ⟨l,gM,kW⟩:=Sg Tryz.underlying60 Tryz.underlying3 c3 w4
  injection e0 with e0 _
  injection e1 with e1 _
  injection e2 with e2 _
  injection hs with hs _
  subst hs e0 e1 e2;refine ⟨⟨i0,i1,i2,s.data.toList,l⟩,⟨⟨max_le hz,kW⟩,wf_i64 q2⟩,rfl,fun j g hg=>?_⟩
  match j,hg with
  | 0,hg=>cases hg;exact mQ x0 (wO _)
  | 1,hg=>cases hg;exact mQ x1 (wO _)
  | 2,hg=>cases hg;exact mQ x2 (wO _)
  | 3,hg=>cases hg;rw [<-AD];exact mQ x3 fun a n c e=>by cases e
  | 4,hg=>cases hg;rw [S9 x4 gM,RG]
  | j+5,hg=>simp [ax] at hg) h3
 have r0:=P1 g1 β;rw [Iz] at r0;refine ⟨⟨gs,ars,fs,ns⟩,?_,⟨⟨g2,g3⟩,⟨a2,fun x hx=>(a3 x hx).1⟩,⟨kC,qC⟩,⟨k2,fun x hx=>(k3 x hx).1⟩⟩,⟨fun x hx=>(a3 x hx).2,fun x hx=>(k3 x hx).2⟩⟩;have hc:bq (KW W) β [v0,v1,v2,v3] (av ⟨gs,ars,fs,ns⟩):=.cons r0 (.cons a1 (.cons cy (.cons k1 .nil)));exact .agg [v0,v1,v2,v3] _ hc.1 hc.2
end
end Go.Xg
namespace Go.Xg
open Go.RowKit Go.Xw Go.Proofs Go.Lib
theorem Ql {P:Program} {W:World} {name:String} {k:IntKind} {zs:List Int} {g:Nat} {t e:TypeId} {n:Nat}
  (hg:P.globalNamed name=some g) (hty:(P.globals[g]?).map (·.type)=some t) (ht:P.underlying t=some (.array n e)) (he:P.underlying e=some (.int k)) (OI:P.cellsOf e=1) (hct:P.cellsOf t=n)
  (h:VarReads P W name (tabData k zs)):TabIs P W name k zs:=by
 obtain ⟨g',t',cs,fuel,p,mU,Hv,abx,hd⟩:=h;obtain rfl:=Option.some.inj (hg.symm.trans mU);obtain rfl:=Option.some.inj (hty.symm.trans Hv);unfold TabIs;rw [abx,<-cells_of_tab ht he OI hct hd]
theorem Ll {P:Program} {W:World} {name:String} {k:IntKind} {zs:List Int} {g n:Nat} (hg:P.globalNamed name=some g) (hn:zs.length=n) (h:TabIs P W name k zs):uE W g n:=by
 unfold TabIs World.var? at h;rw [hg] at h;simp only [Option.bind_some] at h
 cases hb:W.heap[g]? with
 | none=>rw [hb] at h;cases h
 | some o =>
  rw [hb] at h
  cases o with
  | cells cs E z =>
   simp only [Option.some.injEq] at h;exact ⟨cs,E,z,hb,by rw [h];simpa using hn⟩
  | _=>cases h
theorem Nk {P:Program} {W:World} {name:String} {k:IntKind} {zs:List Int} {g:Nat} (hg:P.globalNamed name=some g) (h:TabIs P W name k zs) {o:Nat} {z:Int} (ho:zs[o]?=some z):KW W g o=some (.v (.int k z)):=by
 have ak:=(List.getElem?_eq_some_iff.1 ho).1;have hc:=h.cell hg o ak;rw [List.getD_eq_getElem?_getD,ho,fP] at hc
 exact mQ hc fun a n c e=>by cases e
theorem VL {W:World} (hp:VarReads Tryz.prog W "internal/strconv.uint64pow10" (tabData .u64 xl)) (hs:VarReads Tryz.prog W "strings.asciiSpace" (tabData .u8 xt)) (hW:W.ShapedOpen Tryz.prog):jZ (KW W) (fun _=>.no) W:=by
 have gp:Tryz.prog.globalNamed "internal/strconv.uint64pow10" = some 3:=by kernel_rfl
 have gs:Tryz.prog.globalNamed "strings.asciiSpace" = some 1:=by kernel_rfl
 have tp:=Ql gp (t:=275) (by kernel_rfl) Tryz.underlying275 (k:=.u64) (by kernel_rfl) (by kernel_rfl) (by kernel_rfl) hp;have ts:=Ql gs (t:=253) (by kernel_rfl) Tryz.underlying253 (k:=.u8) (by kernel_rfl) (by kernel_rfl) (by kernel_rfl) hs;obtain ⟨m,hm⟩:=cell_of_shapedOpen_int (g:=0) (zero:=#[.int .i64 0]) (t:=3) hW (of_decide_eq_true (by kernel_rfl)) (by kernel_rfl) rfl (by kernel_rfl) (by kernel_rfl) Tryz.underlying3;rw [fP] at hm;refine ⟨⟨m,fun b o g h=>?_⟩,Ll gp aU tp,Ll gs aU ts,fun i b h=>by cases h⟩;unfold yT at h;split at h
 ·rename_i hb;subst hb;split at h
  ·cases h;exact mQ hm fun a n c e=>by cases e
  ·cases h
 ·split at h
  ·rename_i hb;subst hb
   cases ho:xl[o]? with
   | none=>rw [ho] at h;cases h
   | some z=>rw [ho] at h;cases h;exact Nk gp tp ho
  ·split at h
   ·rename_i hb;subst hb
    cases ho:xt[o]? with
    | none=>rw [ho] at h;cases h
    | some z=>rw [ho] at h;cases h;exact Nk gs ts ho
   ·cases h
theorem GF.calls {P:Program} {f:FuncId} {gs:List GV} {g:GV} (h:GF P f gs [] g []) {W:World} {vs:List Value} (hv:bq (KW W) (fun _=>.no) vs gs) (hT:jZ (KW W) (fun _=>.no) W) :
  p7 P f vs W fun v w'=>Below W.heap.size W w'/\∃ K β,Rel K β v g:=by
 have hI:Inv ⟨W,jm,KW W,fun _=>.no,0⟩ (KW W) (fun _=>.no) [] W :=
  ⟨Ext.refl W,dh.refl _,dX.refl _,fun _ _=>rfl,Y2 W,fun i x h=>by simp at h,fun _ _=>rfl,fun i j b h=>(by cases h),fun i b h=>(by cases h),fun b o g h=>.inl h,hT⟩
 refine (h ⟨W,jm,KW W,fun _=>.no,0⟩ (KW W) (fun _=>.no) W vs rfl hI hv).mono ?_;rintro v w' ⟨K',bT,x,aR,F,I,rfl,rfl⟩;exact ⟨F.ext.below,K',bT,I⟩
end Go.Xg
namespace Go.Xg
open Go.RowKit Go.Xw
theorem uf (n:Int):bits .and .i64 n 4294967295=n % 4294967296:=by
 have h:(BitVec.ofInt 64 4294967295).toNat=2 ^ 32 - 1:=by decide
 have key:(BitVec.ofInt 64 n &&& BitVec.ofInt 64 4294967295).toNat=(n % ((2 ^ 64:Nat):Int)).toNat % 2 ^ 32:=by
  rw [BitVec.toNat_and,BitVec.toNat_ofInt,h,Nat.and_two_pow_sub_one_eq_mod]
 show IntKind.i64.wrap ((BitVec.ofInt 64 n &&& BitVec.ofInt 64 4294967295).toNat:Nat)=n % 4294967296;rw [key,IntKind.wrap_i64];omega
section
variable {P:Program} {fr:List GV} {Γ:List Ob}
theorem YG.uf {x y:Operand} {t t':TypeId} {a:Int} (hx:bb fr x=.v (ii a)) (hy:bb fr y=.v (ii 4294967295)):YG P (.binOp .and t x y t') fr Γ (.v (ii (a % 4294967296))) :=
 YG.v2 hx hy fun l w h k d ty pos af=>by
  simp [execOp,eqGuard,h,k,binOp,intBits_and,Go.Xg.uf]
end
end Go.Xg
namespace Go.Xw
open Go.RowKit
class EK (P:Program) (t:TypeId) (e:outParam TypeId):Prop where
 is:P.underlying t=some (.slice e)/\∃ i,P.info? e=some i/\i.zero=some (.int .u8 0)/\i.size=1/\i.bytes=1
def Td (P:Program) (t e:TypeId):Bool :=
 (match P.underlying t with | some (.slice e')=>e'==e | _=>false)&&(match P.info? e with | some i=>(match i.zero with | some (.int .u8 0)=>true | _=>false)&&i.size==1&&i.bytes==1 | none=>false)
theorem EK.mk' {P:Program} {t e:TypeId} (h:Td P t e=true):EK P t e:=by
 unfold Td at h;rw [aC] at h;obtain ⟨F,I⟩:=h;refine ⟨?_,?_⟩
 ·split at F
  ·rename_i e' hu;rw [hu];simp at F;rw [F]
  ·cases F
 ·split at I
  ·rename_i i hi;simp only [aC,beq_iff_eq] at I;obtain ⟨⟨h4,h5⟩,h6⟩:=I;split at h4
   ·rename_i hz;exact ⟨i,hi,hz,h5,h6⟩
   ·cases h4
  ·cases I
section
variable {P:Program} {Q:mR} {l:List Value} {w:World} {ops:Array Oper} {rest:List Oper} {d:Option Tmp} {ty:TypeId} {pos:String} {af:Array Edge}
def lW (s:ae):List Value:=s.map fun c=>.int .u8 (c.toNat:Int)
theorem WL.DN {s x:Operand} {t u e:Nat} [hT:EK P t e] [hU:rb P u] {base n:Nat} {xs:List Value} {v:Value} {str:ae} (hs:ev l s=v) (jc:jz w base e 1 v n xs) (hx:ev l x=sv str)
  (zp:n+str.length<=140737488355328) (CO:base<=w.heap.size)
  (h:∀ v' w',jz w' base e 1 v' (n+str.length) (xs++lW str)->Ext (fun b=>v.ownBlock=some b) w w'->(∀ b,v'.ownBlock=some b->v.ownBlock=some b\/w.heap.size<=b)->(Ext jm w w'\/v'.ownBlock=v.ownBlock)->WL P ops Q rest (put l d v') w') :
  WL P ops Q (⟨d,.call ⟨.builtin .append,#[s,x],#[t,u]⟩,ty,pos,af,none⟩::rest) l w:=by
 obtain ⟨hu,i,hi,hz,dr,zo⟩:=hT.is;have gX:=hU.und
 have r9:(⟨str.toArray⟩:ByteArray).size=str.length:=by simp [ByteArray.size]
 have gL:Lib.strCells ⟨str.toArray⟩=lW str:=by simp [Lib.strCells,lW]
 obtain ⟨v',w',hr,I,h3,h4⟩:=Lib.run_append_own_string (P:=P) w base t u ty e i hu gX hi hz dr zo v n xs jc ⟨str.toArray⟩ (by rw [r9];simp only [maxLen];omega) (by rw [r9];omega) CO;rw [r9,gL] at I;rw [r9] at h4;have ji:Ext (fun b=>v.ownBlock=some b) w w':=⟨h3.os,h3.tape,h3.output,h3.size,fun j hj hn=>h3.block j hj fun he=>hn he.symm⟩;have ow:(Builtin.append_ #[t,u] ty #[v,sv str]).run P w=.ok v' w':=hr;refine WL.val (v:=v') (w':=w') (by simp [execOp,resolve,invoke,builtin,hs,hx,ow]) (h v' w' I ji ?_ ?_)
 ·intro b' bD
  rcases jc.2 with ⟨rfl,rfl⟩ | ⟨g,cap,cur,rfl,qe,hg,rZ,A4,gL,C3⟩
  ·by_cases hm:str.length=0
   ·have:=h4.2 ⟨rfl,hm⟩;subst this;cases bD
   ·have eg:=run_append_nil_string (P:=P) w t u ty e i (.int .u8 0) hu gX hi hz ⟨str.toArray⟩ (by omega) (by rw [r9];omega) (by rw [zo,r9];omega);rw [hr] at eg;cases eg;simp only [Value.ownBlock,Option.some.injEq] at bD;exact .inr (by omega)
  ·by_cases hroom:n+str.length<=cap
   ·have W9:cur.size=cap:=by simpa using gL
    have eg:=Lib.run_append_room_string (P:=P) w t u ty e i hu gX hi dr g n cap cur hg ⟨str.toArray⟩ (by rw [r9];exact hroom) (by rw [r9];omega);rw [hr] at eg;cases eg;exact .inl bD
   ·have holds:∀ j u,xs[j]?=some u->w.cell? ((⟨g,0,none⟩:Addr).add j)=some u:=World.ownsRow.cells (g:=g) jc rfl;have eg:=Lib.run_append_grow_string (P:=P) w t u ty e i (.int .u8 0) hu gX hi hz ⟨g,0,none⟩ n cap xs (by rw [dr];exact jc.1) holds ⟨str.toArray⟩ (by rw [r9];omega) (by rw [r9];omega) (by rw [zo,r9];exact growslice_fits (by omega) (by omega));rw [hr] at eg;cases eg;simp only [Value.ownBlock,Option.some.injEq] at bD;exact .inr (by omega)
 ·rcases jc.2 with ⟨rfl,rfl⟩ | ⟨g,cap,cur,rfl,qe,hg,rZ,A4,gL,C3⟩
  ·exact .inl (ji.mono fun k _ hk=>by cases hk)
  ·by_cases hroom:n+str.length<=cap
   ·have W9:cur.size=cap:=by simpa using gL
    have eg:=Lib.run_append_room_string (P:=P) w t u ty e i hu gX hi dr g n cap cur hg ⟨str.toArray⟩ (by rw [r9];exact hroom) (by rw [r9];omega);rw [hr] at eg;cases eg;exact .inr rfl
   ·have holds:∀ j u,xs[j]?=some u->w.cell? ((⟨g,0,none⟩:Addr).add j)=some u:=World.ownsRow.cells (g:=g) jc rfl;have eg:=Lib.run_append_grow_string (P:=P) w t u ty e i (.int .u8 0) hu gX hi hz ⟨g,0,none⟩ n cap xs (by rw [dr];exact jc.1) holds ⟨str.toArray⟩ (by rw [r9];omega) (by rw [r9];omega) (by rw [zo,r9];exact growslice_fits (by omega) (by omega));rw [hr] at eg;cases eg;exact .inl ⟨rfl,rfl,rfl,by simp,fun k hk _=>Below.heap_alloc _ _ _ (by simpa using hk)⟩
theorem R.sr {x:Operand} {s:TypeId} {i off:Nat} [hT:ej P s i off 1 false] {vs:List Value} {v:Value} (hx:ev l x=.agg vs.toArray) (hv:vs[off]?=some v):ft P l w (.field s x i) v:=fun d ty pos af=>by
 obtain ⟨hT⟩:=hT;unfold LS at hT;split at hT
 ·rename_i fs hu;split at hT
  ·rename_i f hf;simp only [aC,beq_iff_eq,bne_iff_ne,ne_eq] at hT;obtain ⟨⟨⟨F,I⟩,h3⟩,h4⟩:=hT
   have hag:(isAgg f.type).run P w=.ok false w:=by
    cases hd:P.underlying f.type with
    | none=>simp [hd] at h4
    | some d =>
     rw [hd] at h4;unfold isAgg;rw [Sem.run_bind,run_underlying hd w]
     cases d <;> simp_all [Aa]
   have C5:vs.toArray[f.offset]?=some v:=by rw [F];simpa using hv
   have hv2:vs[f.offset]?=some v:=by rw [F];exact hv
   simp [execOp,Instr.field,hx,run_underlying hu,hf,part,asAgg,hag,C5,hv2]
  ·cases hT
 ·cases hT
end
end Go.Xw
namespace Go.Xg
open GV (U)
open Go.RowKit Go.Xw
section
variable {P:Program} {m:Nat} {Q:dU} {fr:List GV} {Γ:List Ob} {ops:Array Oper} {rest:List Oper} {d:Option Tmp} {op:Op} {ty:TypeId} {pos:String} {af:Array Edge}
theorem YG.sr {x:Operand} {s:TypeId} {i off:Nat} [hT:ej P s i off 1 false] {cs:List GV} {g:GV} (hx:bb fr x=.agg cs) (hg:cs[off]?=some g):YG P (.field s x i) fr Γ g:=fun B K β w l hI hF=>by
 have h:=hF.ev x;rw [hx] at h;generalize hv:ev l x=v at h
 cases h with
 | agg vs _ hl h =>
  have hi:off < vs.length:=by rw [hl];exact (bo hg).1
  exact ⟨vs[off],R.sr hv (by simp [hi]),h off _ g (by simp [hi]) hg⟩
abbrev cW (s:ae):List (List GV):=s.map fun c=>[.v (.int .u8 (c.toNat:Int))]
theorem GL.DN {s x:Operand} {t u e:Nat} [hT:EK P t e] [hU:rb P u] {i n fz:Nat} {rows:List (List GV)} {str:ae} (hx:bb fr x=.v (sv str)) (hs:bb fr s=.vec i n) (bM:Γ[i]?=some (.vec e 1 fz rows)) (hn:rows.length=n) (ct:str.isEmpty=false)
  (hb:n+str.length<=140737488355328)
  (h:GL P m ops Q rest (bJ fr d (.vec i (n+str.length))) (oset Γ i (.vec e 1 fz (rows++cW str)))) :
  GL P m ops Q (⟨d,.call ⟨.builtin .append,#[s,x],#[t,u]⟩,ty,pos,af,none⟩::rest) fr Γ:=fun B K β w l hm hI hF=>by
 subst hn
 have ct:str≠[]:=by intro h0;rw [h0] at ct;cases ct
 obtain ⟨h0,xs,o1,o2,o3,o4,o5,o6⟩:=hI.ob i _ bM;have uX:=hF.ev s;rw [hs] at uX
 have sc:ev l s=h0:=by
  generalize hv:ev l s=v at uX
  cases uX with
  | vec _ _ a c hh =>
   obtain ⟨h',m',e1,e2,e3⟩:=hh;rw [o1] at e1;cases e1;exact e3 rfl
 have gC:(cW str).flatten=str.map fun c=>GV.v (.int .u8 (c.toNat:Int)):=by
  unfold cW;clear hx ct hb h;generalize str=s
  induction s with
  | nil=>rfl
  | cons c r ih=>simp only [List.map_cons,flatten_cons,ih];rfl
 have hlen:(cW str).length=str.length:=by simp [cW]
 refine WL.DN (base:=0) (v:=h0) (n:=rows.length) (xs:=xs) (str:=str) sc o2 (hF.jF hx) hb (aM _) ?_;intro v' w' how ji vC wX
 obtain ⟨K',hK,se,bE⟩:=hI.grow bM o1 ⟨o2,o3⟩ (news:=cW str) (ns:=lW str) (by rw [hlen];exact how) ji vC (by rw [gC];exact (by
   have:(str.map fun c=>GV.v (.int .u8 (c.toNat:Int)))=jW (lW str):=by simp [jW,lW]
   rw [this];exact bq.self)) (fun r hr=>by
   simp only [cW,mP] at hr;obtain ⟨c,_,rfl⟩:=hr
   exact ⟨rfl,fun g hg=>by rw [List.mem_singleton] at hg;subst hg;rfl⟩) (by intro h0;exact ct (List.map_eq_nil_iff.1 h0)) (fun b bD o v ho hv=>by
  rcases wX with h7 | h7
  ·exact h7.c hv (fun h=>h)
  ·have iP:o < xs.length:=by rw [o2.1];exact yD ho (rT 1 o6)
   obtain ⟨b2,c2,qL,_,_,ll⟩:=o2.cells.2 (by intro h0;rw [h0] at iP;simp at iP)
   have eA:b2=b:=by rw [qL] at bD;cases bD;rfl
   subst eA;have Fl:=ll o xs[o] (by simp [iP]);rw [fP,hv] at Fl;cases Fl;obtain ⟨b3,c3,OM,_,_,OH⟩:=how.cells.2 (by intro h0;have:xs=[]:=(List.append_eq_nil_iff.1 h0).1;rw [this] at iP;simp at iP)
   have zm:b3=b2:=by rw [OM,bD] at h7;cases h7;rfl
   subst zm
   rw [<-fP];exact OH o _ (by rw [fO iP];simp [iP]))
 rw [<-aZ] at bE;refine h B K' _ w' _ hm bE ((hF.mono hK se).put d ?_);obtain ⟨a,c,rfl⟩:=how.shape;exact .vec i _ a c ⟨_,_,bO,by simp [hlen],fun _=>by simp [hlen]⟩
end
theorem GF.X9 {P:Program} {f:FuncId} {vs:List Value} {v:Value} (h:∀ K β w,jZ K β w->lK K w->p7 P f vs w fun x w'=>x=v/\Ext jm w w'):GF P f (vs.map GV.v) [] (.v v) []:=fun B K β w us hm hI hF=>by
 have hv:us=vs:=by
  obtain ⟨F,I⟩:=hF;apply ext_getElem
  ·simpa using F
  ·intro i h3 h4;have:=I i us[i] (.v vs[i]) (by simp [h3]) (by simp [h4]);exact Rel.gk this
 subst hv
 exact (h K β w hI.tab hI.fz).mono fun x w' ⟨F,I⟩=>⟨K,β,.v v,[],hI.same I,by rw [F];exact .v _,rfl,rfl⟩
theorem jZ.cell {K:Fz} {β:Bt} {w:World} (h:jZ K β w) (hf:lK K w) {b o:Nat} {x:Value} (hk:∀ m,yT m b o=some (.v x)):ia w.heap b o=some x:=by
 obtain ⟨m,h⟩:=h.le;obtain ⟨_,v,hv,hr⟩:=hf b o _ (h b o _ (hk m));rw [hv,Rel.gk hr]
theorem jZ.maxLen {K:Fz} {β:Bt} {w:World} (h:jZ K β w) (hf:lK K w):∃ m,w.cell? ⟨0,0,none⟩=some (.int .i64 m):=by
 obtain ⟨m,h⟩:=h.le
 have hk:yT m 0 0=some (.v (.int .i64 m)):=by simp [yT]
 obtain ⟨_,v,hv,hr⟩:=hf _ _ _ (h _ _ _ hk);exact ⟨m,by rw [fP,hv,Rel.gk hr]⟩
theorem uE.all {K:Fz} {β:Bt} {w:World} (h:jZ K β w) (hf:lK K w) {b n:Nat} {zs:List Value} (hb:uE w b n) (hn:zs.length=n) (hk:∀ m o x,zs[o]?=some x->yT m b o=some (.v x)):∃ E z,w.heap[b]?=some (.cells zs.toArray E z):=by
 obtain ⟨cs,E,z,F,I⟩:=hb;refine ⟨E,z,?_⟩
 have:cs=zs.toArray:=by
  apply Array.ext
  ·simp [I,hn]
  ·intro i hi qh
   have hx:zs[i]?=some zs.toArray[i]:=by simp
   have h3:=h.cell hf (b:=b) (o:=i) (fun m=>hk m i _ hx)
   have h4:ia w.heap b i=cs[i]?:=by rw [<-fP,cell_of_row w b i cs E z F]
   rw [h4] at h3;simpa [hi] using h3
 rw [F,this]
theorem GF.abG {P:Program} {f:FuncId} {vs us:List Value} {E:TypeId} (h:∀ K β w,jZ K β w->lK K w->p7 P f vs w fun x w'=>x=.slice (some ⟨w.heap.size,0,none⟩) us.length us.length/\w'=w.alloc (.cells us.toArray E)):GF P f (vs.map GV.v) [] (.sl 1 (us.map fun u=>[.v u])) []:=fun B K β w ws hm hI hF=>by
 have hv:ws=vs:=by
  obtain ⟨F,I⟩:=hF;apply ext_getElem
  ·simpa using F
  ·intro i h3 h4;have:=I i ws[i] (.v vs[i]) (by simp [h3]) (by simp [h4]);exact Rel.gk this
 subst hv
 refine (h K β w hI.tab hI.fz).mono fun x w' ⟨F,I⟩=>?_
 subst F;subst I;have hn:=wy.of w (.cells us.toArray E);obtain ⟨hle,bE⟩:=hI.vy hn (cs:=us.map .v) bq.self (fun g hg=>by obtain ⟨u,_,rfl⟩:=mP.1 hg;rfl);refine ⟨_,β,.sl 1 (us.map fun u=>[.v u]),[],bE,?_,rfl,rfl⟩;have:=Rel.sl (K:=mn K w.heap.size (us.map .v)) (β:=β) w.heap.size 0 us.length 1 (us.map fun u=>[.v u]) (fun i r hr=>?_) (by simp)
 ·rw [bP] at this;exact this
 ·rw [aP] at hr
  cases hu:us[i]? with
  | none=>rw [hu] at hr;cases hr
  | some u =>
   rw [hu] at hr;cases hr;refine ⟨rfl,fun j g hg=>?_⟩
   cases j with
   | zero=>cases hg;rw [cI,Nat.mul_one,Nat.add_zero];exact wB (by rw [aP,hu];rfl)
   | succ j=>simp at hg
section
variable {B:Bs} {K:Fz} {β:Bt} {Γ:List Ob} {w:World}
theorem Inv.swap {i:Nat} {y:Ob} (h:Inv B K β Γ w) (ho:lM K β w i y):Inv B K β (oset Γ i y) w:=by
 refine ⟨h.ext,h.kle,h.ble,h.loc,h.fz,fun j x hj=>?_,fun j hj=>h.out j (by simpa [aZ] using hj),h.dis,h.own,h.kn,h.tab⟩;rw [aZ,dx] at hj;split at hj
 ·rename_i ir;split at hj
  ·cases hj;subst ir;exact ho
  ·cases hj
 ·exact h.ob j x hj
theorem Inv.DE {i E k:Nat} {rows:List (List GV)} {x:Value} (h:Inv B K β Γ w) (hi:Γ[i]?=some (.vech E k rows x)):Inv B K β (oset Γ i (.vec E k 0 rows)) w:=by
 obtain ⟨xs,F,I,h3,h4,h5⟩:=h.ob i _ hi;exact h.swap ⟨x,xs,F,I,h3,h4,fun b hb=>⟨fun o _=>h5 b hb o,fun o g ho=>by omega⟩,aM _⟩
theorem Inv.BQ {i E k:Nat} {rows:List (List GV)} (h:Inv B K β Γ w) (hi:Γ[i]?=some (.vec E k 0 rows)):∃ a c,β i=.gr (.slice a rows.length c) rows.length/\Inv B K β (oset Γ i (.vech E k rows (.slice a rows.length c))) w:=by
 obtain ⟨x,xs,F,I,h3,h4,h5,h6⟩:=h.ob i _ hi;obtain ⟨a,c,rfl⟩:=I.shape;exact ⟨a,c,F,h.swap ⟨xs,F,I,h3,h4,fun b hb o=>(h5 b hb).1 o G⟩⟩
theorem qF {i:Nat} {x y:Ob} (h:Γ[i]?=some x):(oset Γ i y)[i]?=some y:=by
 have:=(bo h).1;rw [aZ,dx];simp [this]
theorem pd {i:Nat} {x y:Ob}:oset (oset Γ i x) i y=oset Γ i y:=by rw [aZ,aZ,aZ,List.set_set]
theorem Inv.gr {i E k:Nat} {rows:List (List GV)} {x:Value} (h:Inv B K β Γ w) (hi:Γ[i]?=some (.vech E k rows x)):β i=.gr x rows.length:=by
 obtain ⟨xs,F,_⟩:=h.ob i _ hi;exact F
theorem Inv.uj {i E k:Nat} {rows:List (List GV)} {x:Value} (h:Inv B K β Γ w) (hi:Γ[i]?=some (.vech E k rows x)):∃ K',dh K K'/\Rel K' β x (.sl k rows)/\Inv B K' β (oset Γ i (.vec E k rows.length rows)) w:=by
 obtain ⟨xs,F,I,h3,h4,h5⟩:=h.ob i _ hi;obtain ⟨K',hK,Ff,bE⟩:=(h.DE hi).jD (qF hi);rw [<-aZ,pd] at bE;refine ⟨K',hK,?_,bE⟩
 rcases I.2 with ⟨e5,e6⟩ | ⟨g,cap,cu,e5,_,_,rZ,_⟩
 ·have:rows=[]:=iC e6;subst this;subst e5;exact .sl0 _ _ _
 ·subst e5;refine .sl g 0 cap k rows (fun j r hr=>⟨(h4 r (bA hr)).1,fun q g' mU=>?_⟩) rZ;rw [cI];exact Ff _ g F rfl _ g' (vc h4 hr mU)
end
section
variable {P:Program} {m:Nat} {Q:dU} {fr:List GV} {Γ:List Ob} {ops:Array Oper} {rest:List Oper} {d:Option Tmp} {op:Op} {ty:TypeId} {pos:String} {af:Array Edge}
theorem Wk.kE (E k:Nat):Wk m fr Γ fr (Γ++[.vech E k [] (.slice none 0 0)]):=fun B K β w l hm hI hF=>by
 have da:β Γ.length=.no:=hI.out _ (aE _);have bE:=hI.Gr (w':=w) (E:=E) (k:=k) (x:=.slice none 0 0) (xs:=[]) (rows:=[]) (Ext.refl w) (jz.nil w 0 E k) (fun b hb=>by cases hb) bq.nil (fun r hr=>by cases hr);have hle:dX β (gQ β Γ.length (.gr (.slice none 0 0) ([]:List (List GV)).length)):=jM (by rw [da];trivial);refine ⟨K,_,?_,hF.mono (dh.refl K) hle⟩;have hb:gQ β Γ.length (.gr (.slice none 0 0) ([]:List (List GV)).length) Γ.length=.gr (.slice none 0 0) ([]:List (List GV)).length:=bO;have:=bE.swap (i:=Γ.length) (y:=.vech E k [] (.slice none 0 0)) ⟨[],hb,jz.nil w 0 E k,bq.nil,(fun r hr=>by cases hr),(fun b hb=>by cases hb)⟩;rw [aZ] at this;simpa using this
theorem Wk.ui {t i E k:Nat} {rows:List (List GV)} {x:Value} (ht:cz fr t=.v x) (gD:jj fr t=true) (bM:Γ[i]?=some (.vech E k rows x)):Wk m fr Γ (bp fr t (.sl k rows)) (oset Γ i (.vec E k rows.length rows)):=fun B K β w l hm hI hF=>by
 obtain ⟨K',hK,hr,bE⟩:=hI.uj bM;refine ⟨K',β,bE,?_⟩;have hv:nth l t=x:=Rel.gk (by rw [<-ht];exact hF.nth t);have:=(hF.mono hK (dX.refl β)).fV t hr;rw [<-hv,Cw (n9 hF gD)] at this;exact this
theorem bq.bp {K:Fz} {β:Bt} {x:Value} {g:GV} (hr:Rel K β x g):∀ {vs:List Value} {cs:List GV} {o:Nat},bq K β vs cs->cs[o]?=some (.v x)->bq K β vs (bp cs o g):=by
 intro vs
 induction vs with
 | nil=>intro cs o h ho;have:cs=[]:=iC h.1.symm;subst this;simp at ho
 | cons v vs ih =>
  intro cs o h ho
  cases cs with
  | nil=>simp at ho
  | cons c cs =>
   obtain ⟨a1,a2⟩:=h.qo
   cases o with
   | zero=>cases ho;have hv:=Rel.gk a1;subst hv;exact .cons hr a2
   | succ o=>exact .cons a1 (ih a2 (by simpa using ho))
theorem Wk.yv {i o j E k:Nat} {T:TypeId} {cs:List GV} {rows:List (List GV)} {x:Value} (hi:Γ[i]?=some (.box T cs)) (ho:cs[o]?=some (.v x)) (ir:Nat.beq i j=false) (hj:Γ[j]?=some (.vech E k rows x)):Wk m fr Γ fr (oset (oset Γ j (.vec E k rows.length rows)) i (.box T (bp cs o (.sl k rows)))):=fun B K β w l hm hI hF=>by
 have ct:i≠j:=by intro e;subst e;simp at ir
 obtain ⟨K',hK,hr,bE⟩:=hI.uj hj;obtain ⟨b,vs,F,I,h3,h4⟩:=bE.ob i (.box T cs) (by rw [aZ,dx,L (fun e=>ct e.symm)];exact hi);exact ⟨K',β,bE.swap ⟨b,vs,F,I,bq.bp hr h3 ho,h4⟩,hF.mono hK (dX.refl β)⟩
def dp:List (List GV)->Nat->Nat->GV->List (List GV)
 | [],_,_,_=>[]
 | r::rs,0,o,g=>bp r o g::rs
 | r::rs,n+1,o,g=>r::dp rs n o g
theorem GS:∀ (l:List GV) (o:Nat) (g:GV),(bp l o g).length=l.length
 | [],_,_=>rfl
 | _::l,0,_=>rfl
 | _::l,o+1,g=>by simp [bp,GS l o g]
theorem BO:∀ (a b:List GV) (o:Nat) (g:GV),bp (a++b) (a.length+o) g=a++bp b o g
 | [],b,o,g=>by simp
 | x::a,b,o,g=>by
  rw [cons_append,length_cons,show a.length+1+o=(a.length+o)+1 by omega,bp,BO a b o g];rfl
theorem E7:∀ (a b:List GV) (o:Nat) (g:GV),o < a.length->bp (a++b) o g=bp a o g++b
 | [],b,o,g,h=>by simp at h
 | x::a,b,0,g,h=>rfl
 | x::a,b,o+1,g,h=>by simp [bp,E7 a b o g (by simpa using h)]
theorem Rp {l:List GV} {o:Nat} {g x:GV} (h:x∈bp l o g):x∈l\/x=g:=by
 induction l generalizing o with
 | nil=>cases h
 | cons y l ih =>
  cases o with
  | zero =>
   simp only [bp,List.mem_cons] at h;rcases h with h | h
   ·exact .inr h
   ·exact .inl (dw _ h)
  | succ o =>
   simp only [bp,List.mem_cons] at h;rcases h with h | h
   ·exact .inl (by rw [h];exact mem_cons_self)
   ·exact (ih h).imp (dw _) id
theorem iJ:∀ (rows:List (List GV)) (i o:Nat) (g:GV),(dp rows i o g).length=rows.length
 | [],_,_,_=>rfl
 | r::rs,0,_,_=>rfl
 | r::rs,n+1,o,g=>by simp [dp,iJ rs n o g]
theorem vR {k:Nat} {o:Nat} {g:GV} (ho:o < k):∀ {rows:List (List GV)} {i:Nat},iw k rows->i < rows.length->(dp rows i o g).flatten=bp rows.flatten (i * k+o) g
 | [],_,_,h=>by simp at h
 | r::rs,0,hk,_=>by
  have:=(hk r (mem_cons_self)).1;rw [dp,flatten_cons,flatten_cons,Nat.zero_mul,cI,E7 _ _ _ _ G]
 | r::rs,n+1,hk,h=>by
  have:=(hk r (mem_cons_self)).1;rw [dp,flatten_cons,flatten_cons,vR ho (fun r hr=>hk r (dw _ hr)) (by simpa using h),show (n+1) * k+o=r.length+(n * k+o) by rw [Nat.succ_mul];omega,BO]
theorem AA {k:Nat} {o:Nat} {g:GV} (hg:g.pc=true):∀ {rows:List (List GV)} {i:Nat},iw k rows->iw k (dp rows i o g)
 | [],_,_=>fun r hr=>by cases hr
 | r::rs,0,hk=>fun r' hr=>by
  simp only [dp,List.mem_cons] at hr
  rcases hr with rfl | hr
  ·exact ⟨by rw [GS];exact (hk r mem_cons_self).1,fun x hx=>by
    rcases Rp hx with h | h
    ·exact (hk r mem_cons_self).2 x h
    ·rw [h];exact hg⟩
  ·exact hk r' (dw _ hr)
 | r::rs,n+1,hk=>fun r' hr=>by
  simp only [dp,List.mem_cons] at hr
  rcases hr with rfl | hr
  ·exact hk _ mem_cons_self
  ·exact AA hg (fun r hr=>hk r (dw _ hr)) r' hr
theorem Ih {a b:List (List GV)} {r:List GV} {o:Nat} {g:GV}:dp (a++r::b) a.length o g=a++bp r o g::b:=by
 induction a with
 | nil=>rfl
 | cons x a ih=>rw [cons_append,length_cons,dp,ih];rfl
theorem Wk.ML {i idx o j E k T k':Nat} {rows ks:List (List GV)} {x h:Value} {r:List GV} (hi:Γ[i]?=some (.vech T k rows h)) (hr:rows[idx]?=some r) (ho:r[o]?=some (.v x)) (ir:Nat.beq i j=false) (hj:Γ[j]?=some (.vech E k' ks x)) :
  Wk m fr Γ fr (oset (oset Γ j (.vec E k' ks.length ks)) i (.vech T k (dp rows idx o (.sl k' ks)) h)):=fun B K β w l hm hI hF=>by
 have ct:i≠j:=by intro e;subst e;simp at ir
 obtain ⟨K',hK,fX,bE⟩:=hI.uj hj;obtain ⟨xs,F,I,h3,h4,h5⟩:=bE.ob i (.vech T k rows h) (by rw [aZ,dx,L (fun e=>ct e.symm)];exact hi);have ak:=(bo hr).1
 have OW:o < k:=by rw [<-(h4 r (bA hr)).1];exact (bo ho).1
 exact ⟨K',β,bE.swap ⟨xs,by rw [iJ];exact F,by rw [iJ];exact I,by rw [vR OW h4 ak];exact bq.bp fX h3 (vc h4 hr ho),AA rfl h4,h5⟩,hF.mono hK (dX.refl β)⟩
theorem YG.cU {x y:Operand} {t e:TypeId} {k:Nat} [hT:oB P t e k] (i:Nat) {v:Value} {kk:IntKind} {j E:Nat} {rows:List (List GV)} (hx:bb fr x=.v v) (hy:bb fr y=.v (.int kk j)) (bM:Γ[i]?=some (.vech E k rows v)) (hj:j < rows.length):YG P (.indexAddr t x y) fr Γ (.vp i rows.length k j 0):=fun B K β w l hI hF=>by
 have hv:=hF.jF hx;obtain ⟨xs,F,I,h3,h4,h5⟩:=hI.ob i _ bM
 rcases I.2 with ⟨h8,h9⟩ | ⟨g,cap,cur,h8,_,hg,_⟩
 ·omega
 ·subst h8;exact ⟨_,R.wh hv (hF.jF hy) hj,.vp i _ k j 0 _ ⟨_,_,F,aE _,fun _=>⟨g,rfl,by simp⟩⟩⟩
theorem YG.Wn {x:Operand} {s:TypeId} {f off k:Nat} {agg:Bool} [hT:ej P s f off k agg] {i n k' idx o E:Nat} {rows:List (List GV)} {v:Value} (hx:bb fr x=.vp i n k' idx o) (bM:Γ[i]?=some (.vech E k' rows v)) (hn:rows.length=n):YG P (.fieldAddr s x f) fr Γ (.vp i n k' idx (o+off)):=fun B K β w l hI hF=>by
 have h:=hF.ev x;rw [hx] at h;generalize hv:ev l x=u at h
 cases h with
 | vp _ _ _ _ _ _ h =>
  obtain ⟨h0,m,F,I,h3⟩:=h;rw [hI.gr bM] at F;cases F;obtain ⟨b,hb,rfl⟩:=h3 hn;exact ⟨_,R.Ri hv,.vp i n k' idx _ _ ⟨_,_,hI.gr bM,I,fun _=>⟨b,hb,by rw [gn]⟩⟩⟩
theorem YG.X5 {x:Operand} {t:TypeId} [hT:Ty P t false 1] {i n k idx o E:Nat} {rows:List (List GV)} {v:Value} {r:List GV} {g:GV} (hx:bb fr x=.vp i n k idx o) (bM:Γ[i]?=some (.vech E k rows v)) (hn:rows.length=n) (hr:rows[idx]?=some r) (hg:r[o]?=some g):YG P (.load t x) fr Γ g:=fun B K β w l hI hF=>by
 have h:=hF.ev x;rw [hx] at h;generalize hv:ev l x=u at h
 cases h with
 | vp _ _ _ _ _ _ h =>
  obtain ⟨h0,m,F,I,h3⟩:=h;obtain ⟨xs,h4,h5,h6,h7,_⟩:=hI.ob i _ bM;rw [F] at h4;cases h4;obtain ⟨b,hb,rfl⟩:=h3 hn;obtain ⟨u,hu,fX⟩:=h6.at (vc h7 hr hg);obtain ⟨b2,c,he,_,_,hc⟩:=h5.cells.2 (by intro h0;rw [h0] at hu;simp at hu);subst he;cases hb;exact ⟨u,R.ld hv (by rw [<-fP];exact hc _ _ hu),fX⟩
theorem Cx {v:Value}:∀ (l:List Value) (n o:Nat),o < n->(fV l o v).take n=fV (l.take n) o v
 | [],n,o,h=>by simp [fV]
 | x::l,0,o,h=>by omega
 | x::l,n+1,0,h=>by simp [fV]
 | x::l,n+1,o+1,h=>by simp [fV,Cx l n o G]
theorem yA {v:Value}:∀ (l:List Value) (o:Nat),(fV l o v).length=l.length
 | [],o=>rfl
 | x::l,0=>rfl
 | x::l,o+1=>by simp [fV,yA l o]
theorem GL.stH {x y:Operand} {t:TypeId} [hT:Ty P t false 1] {i n k idx o E:Nat} {rows:List (List GV)} {v:Value} {r:List GV} {g:GV} (hx:bb fr x=.vp i n k idx o) (bM:Γ[i]?=some (.vech E k rows v)) (hn:rows.length=n) (hr:rows[idx]?=some r) (OW:Nat.blt o r.length=true)
  (hy:lY (bb fr y)=some [g]) (F:g.one=true) (hp:g.pc=true) (h:GL P m ops Q rest (bJ fr d (.v undef)) (oset Γ i (.vech E k (dp rows idx o g) v))):GL P m ops Q (⟨d,.store t x y,ty,pos,af,none⟩::rest) fr Γ:=fun B K β w l hm hI hF=>by
 have Hu:=hF.ev x;rw [hx] at Hu;generalize hv:ev l x=u at Hu
 cases Hu with
 | vp _ _ _ _ _ _ hh =>
  obtain ⟨h0,mm,e1,e2,e3⟩:=hh;obtain ⟨xs,h4,h5,h6,h7,h8⟩:=hI.ob i _ bM;rw [e1] at h4;cases h4;obtain ⟨b,hb,rfl⟩:=e3 hn;have ak:=(bo hr).1
  have abk:o < k:=by rw [<-(h7 r (bA hr)).1];simpa using OW
  obtain ⟨us,lH,me⟩:=(hF.ev y).cells hy
  obtain ⟨u1,rfl⟩:∃ u1,us=[u1]:=by
   have:=me.1
   match us,this with
   | [u1],_=>exact ⟨u1,rfl⟩
  have hu3:Rel K β u1 g:=me.2 0 u1 g rfl rfl
  have hq:idx * k+o < rows.length * k:=by
   have:(idx+1) * k<=rows.length * k:=rT k ak;rw [Nat.succ_mul] at this;omega
  rcases h5.2 with ⟨e5,e6⟩ | ⟨g0,cap,cur,e5,LO,hg,rZ,A4,dr,jU⟩
  ·omega
  ·subst e5;simp only [Value.ownBlock,Option.some.injEq] at hb;subst hb;have aaW:rows.length * k<=cap * k:=rT k rZ
   refine WL.st (t:=t) (k:=1) hv rfl hg (by rw [lH];rfl) G (by rw [lH];have:=(yo (hu3.one F)).2;simpa [Xw.nb] using this) fun w' hs=>?_
   rw [lH] at hs
   have gL:wu cur (idx * k+o) ([u1]:List Value)=(fV cur.toList (idx * k+o) u1).toArray:=by
    simp only [wu];rw [<-zZ]
   simp only [toList_toArray,gL] at hs
   have Ap:rows.flatten.length=rows.length * k:=by rw [<-h6.1];exact h5.1
   have how:jz w' 0 E k (.slice (some ⟨g0,0,none⟩) rows.length cap) rows.length (fV xs (idx * k+o) u1) :=
    ⟨by rw [yA];exact h5.1,.inr ⟨g0,cap,_,rfl,LO,hs.blk,rZ,A4,by simp [yA,dr],by rw [toList_toArray,Cx _ _ _ hq,jU]⟩⟩
   have fX:bq K β (fV xs (idx * k+o) u1) (bp rows.flatten (idx * k+o) g):=by
    have gen:∀ (vs:List Value) (cs:List GV) (q:Nat),bq K β vs cs->bq K β (fV vs q u1) (bp cs q g):=by
     intro vs
     induction vs with
     | nil=>intro cs q h;have:cs=[]:=iC h.1.symm;subst this;exact h
     | cons v vs ih =>
      intro cs q h
      cases cs with
      | nil=>have:=h.1;simp at this
      | cons c cs =>
       obtain ⟨a1,a2⟩:=h.qo
       cases q with
       | zero=>exact .cons hu3 a2
       | succ q=>exact .cons a1 (ih cs q a2)
    exact gen _ _ _ h6
   have fT:(β i).blk=some g0:=by rw [e1];rfl
   have bE:Inv B K β (oset Γ i (.vech E k (dp rows idx o g) (.slice (some ⟨g0,0,none⟩) rows.length cap))) w':=by
    refine ⟨hI.ext.step hs.ext (fun j hj=>?_),hI.kle,hI.ble,hI.loc,hI.fz.ext hs.ext (fun b' o' g' mU he=>?_),fun j y hj=>?_,fun j hj=>hI.out j (by simpa [aZ] using hj),hI.dis,hI.own,hI.kn,hI.tab.step hs.ext (fun j hj=>⟨i,by subst hj;exact fT⟩) (dh.refl K) (fun i b2 h=>.inl ⟨i,h⟩)⟩
    ·subst hj;exact (hI.own i _ fT).symm
    ·subst he;rw [h8 _ rfl] at mU;cases mU
    ·rw [aZ,dx] at hj;split at hj
     ·rename_i ir;split at hj
      ·cases hj;subst ir
       exact ⟨_,by rw [iJ];exact e1,by rw [iJ];exact how,by rw [vR abk h7 ak];exact fX,AA hp h7,h8⟩
      ·cases hj
     ·rename_i ir;refine (hI.ob j y hj).ext hs.ext (fun b' bD he=>?_) (dh.refl K) (dX.refl β) rfl (fun _ _ _ h=>h);subst he;exact ir (hI.dis i j _ fT bD)
   exact h B K β w' _ hm bE (hF.put d (.v _))
theorem GL.pI {x:Operand} {ts:Tmp} {t e k iM:Nat} {z:List Value} [hT:pN P t e k iM] [hZ:q9 P t e k z] {d1 dt:Tmp} {Qt:TypeId} {H8:String} {Ns:Array Edge} (i:Nat) {n:Nat} {rows:List (List GV)} {gs:List GV} {v:Value}
  (hx:lY (bb fr x)=some gs) (hk:Nat.beq gs.length k=true) (F:mO gs=true) (hp:qm gs=true) (hs:cz fr ts=.v v) (XG:Nat.beq ts d1=false) (hd:jj fr d1=true) (bM:Γ[i]?=some (.vech e k rows v)) (hn:rows.length=n)
  (hb:(n+1<=9223372036854775807/\(n+1) * iM<=140737488355328)/\k<=16777216)
  (h:∀ a c,GL P m ops Q rest (bJ (bJ fr (some d1) U) (some dt) (.v (.slice a (n+1) c))) (oset Γ i (.vech e k (rows++[gs]) (.slice a (n+1) c)))) :
  GL P m ops Q (⟨some d1,.buildSlice t 1 #[(0,x)],Qt,H8,Ns,none⟩::⟨some dt,.call ⟨.builtin .append,#[.tmp ts,.tmp d1],#[t,t]⟩,ty,pos,af,none⟩::rest) fr Γ:=fun B K β w l hm hI hF=>by
 subst hn;obtain ⟨us,lH,me⟩:=(hF.ev x).cells hx;obtain ⟨xs,o1,o2,o3,o4,o5⟩:=hI.ob i _ bM;have sc:nth l ts=v:=Rel.gk (by rw [<-hs];exact hF.nth ts);have OK:=n9 hF hd
 have abe:ts≠d1:=by intro e;subst e;simp at XG
 have mW:gs.length=k:=by simpa using hk
 refine WL.push (base:=0) (v:=v) (vs:=us) (val:=ev l x) (xs:=xs) (n:=rows.length) rfl (fun u=>by rw [show ev (put l (some d1) u) (.tmp ts)=nth (fV l d1 u) ts from rfl,pG abe];exact sc) (fun u=>uv OK u) lH (by rw [me.1,mW]) (me.nb F) o2 hb.1.1 hb.1.2 hb.2 (aM _) ?_;intro u v' w' how ji vC wX;obtain ⟨K',hK,se,bE⟩:=(hI.DE bM).grow (fz:=0) (qF bM) o1 ⟨o2,o3⟩ (news:=[gs]) (ns:=us) how ji vC (by simpa using me) (fun r hr=>by simp at hr;subst hr;exact ⟨mW,nf hp⟩) (by simp) (fun b bD o v ho hv=>by omega);rw [<-aZ,pd] at bE;obtain ⟨a,c,rm,rX⟩:=bE.BQ (qF bM);rw [pd] at rX;obtain ⟨a',c',rfl⟩:=how.shape;rw [bO] at rm;simp only [aO,length_cons,length_nil] at rm rX se;cases rm;exact h _ _ B K' _ w' _ hm rX (((hF.mono hK se).put (some d1) (.U u)).put (some dt) (.v _))
theorem GL.qA {s x:Operand} {t e k iM:Nat} [hT:pN P t e k iM] (i:Nat) {n:Nat} {dt:Tmp} {v:Value} {rows news:List (List GV)} (hx:bb fr x=.sl k news) (hs:bb fr s=.v v) (bM:Γ[i]?=some (.vech e k rows v)) (hn:rows.length=n) (F:kT news=true) (ct:news.isEmpty=false)
  (hb:n+news.length<=9223372036854775807/\(n+news.length) * iM<=140737488355328)
  (h:∀ a c,GL P m ops Q rest (bJ fr (some dt) (.v (.slice a (n+news.length) c))) (oset Γ i (.vech e k (rows++news) (.slice a (n+news.length) c)))) :
  GL P m ops Q (⟨some dt,.call ⟨.builtin .append,#[s,x],#[t,t]⟩,ty,pos,af,none⟩::rest) fr Γ:=fun B K β w l hm hI hF=>by
 subst hn
 have ct:news≠[]:=by intro h0;rw [h0] at ct;cases ct
 obtain ⟨xs,o1,o2,o3,o4,o5⟩:=hI.ob i _ bM;have sc:ev l s=v:=hF.jF hs;have uZ:=hF.ev x;rw [hx] at uZ;generalize tA:ev l x=vx at uZ
 cases uZ with
 | sl0 a c k=>exact absurd rfl ct
 | sl b o c _ _ hr _ =>
  have mJ:iw k news:=fun r O0=>by
   obtain ⟨j,hj⟩:=List.mem_iff_getElem?.1 O0;refine ⟨(hr j r hj).1,fun g hg=>?_⟩;obtain ⟨q,hq⟩:=List.mem_iff_getElem?.1 hg;exact (hI.fz _ _ _ ((hr j r hj).2 q g hq)).1
  have Ap:∀ (rows:List (List GV)) (o:Nat),(∀ (j:Nat) r,rows[j]?=some r->r.length=k/\∀ (q:Nat) g,r[q]?=some g->K b (o+j * k+q)=some g)->∀ (q:Nat) g,rows.flatten[q]?=some g->K b (o+q)=some g:=by
   intro rows
   induction rows with
   | nil=>intro o _ q g hg;simp at hg
   | cons r rows ih =>
    intro o h q g hg;rw [flatten_cons] at hg;have hl:=(h 0 r rfl).1
    by_cases hq:q < r.length
    ·rw [fO hq] at hg;have:=(h 0 r rfl).2 q g hg;simpa using this
    ·rw [fa G,hl] at hg
     have:=ih (o+k) (fun j r' hj=>by
      have:=h (j+1) r' (by simpa using hj);refine ⟨this.1,fun q g hg=>?_⟩;have:=this.2 q g hg
      rw [show o+(j+1) * k+q=o+k+j * k+q by rw [Nat.succ_mul];omega] at this;exact this) (q - k) g hg
     rw [show o+k+(q - k)=o+q by omega] at this;exact this
  obtain ⟨us,lH,me⟩:=xJ (K:=K) (β:=β) (H:=w.heap) (b:=b) news.flatten o (fun j g hj=>by
   obtain ⟨hp,u,hu,fX⟩:=hI.fz _ _ _ (Ap news o (fun j r hj=>hr j r hj) j g hj)
   exact ⟨u,hu,fX.pc hp⟩)
  have Fj:us.length=news.length * k:=by
   rw [lH.1,List.length_flatten]
   have:∀ (rows:List (List GV)),iw k rows->(rows.map List.length).sum=rows.length * k:=by
    intro rows
    induction rows with
    | nil=>intro _;simp
    | cons r rows ih =>
     intro hk;rw [List.map_cons,sum_cons,ih (fun r hr=>hk r (dw _ hr)),(hk r (mem_cons_self)).1,length_cons,Nat.succ_mul];omega
   exact this news mJ
  refine WL.app (base:=0) (v:=v) (n:=rows.length) (m:=news.length) (xs:=xs) (news:=us) sc o2 tA Fj (fun j u hj=>by rw [fP];exact me j u hj) (lH.nb (Dp F)) hb.1 hb.2 (aM _) ?_;intro v' w' how ji vC wX;obtain ⟨K',hK,se,bE⟩:=(hI.DE bM).grow (fz:=0) (qF bM) o1 ⟨o2,o3⟩ (news:=news) (ns:=us) how ji vC lH mJ ct (fun b bD o v ho hv=>by omega);rw [<-aZ,pd] at bE;obtain ⟨a,c,rm,rX⟩:=bE.BQ (qF bM);rw [pd] at rX;obtain ⟨a',c',rfl⟩:=how.shape;rw [bO] at rm;simp only [aO] at rm rX se;cases rm;exact h _ _ B K' _ w' _ hm rX ((hF.mono hK se).put (some dt) (.v _))
end
theorem FN:∀ (us vs:List Value) (o n:Nat),o+us.length<=n->(jq vs o us).take n=jq (vs.take n) o us
 | [],vs,o,n,_=>rfl
 | u::us,vs,o,n,h=>by
  rw [length_cons] at h;rw [jq,jq,FN us _ _ _ G,Cx _ _ _ G]
theorem zg (a:List GV):∀ (gs b:List GV) (o:Nat),oD (a++b) (a.length+o) gs=a++oD b o gs
 | [],b,o=>rfl
 | g::gs,b,o=>by rw [oD,oD,BO,gn,zg a gs]
theorem xS:∀ (gs a b:List GV),a.length=gs.length->oD (a++b) 0 gs=gs++b
 | [],[],b,_=>rfl
 | [],x::a,b,h=>by simp at h
 | g::gs,[],b,h=>by simp at h
 | g::gs,x::a,b,h=>by
  rw [oD,cons_append,bp];have:=zg [g] gs (a++b) 0;simp only [length_cons,length_nil,cons_append,List.nil_append,cI,Nat.add_zero] at this |-;rw [this,xS gs a b (by simpa using h)]
theorem Ie {k:Nat} {gs:List GV} (hg:gs.length=k):∀ {rows:List (List GV)} {i:Nat},iw k rows->i < rows.length->oD rows.flatten (i * k) gs=(rows.set i gs).flatten
 | [],_,_,h=>by simp at h
 | r::rs,0,hk,_=>by
  rw [flatten_cons,List.set_cons_zero,flatten_cons,Nat.zero_mul,xS gs r _ (by rw [hg];exact (hk r mem_cons_self).1)]
 | r::rs,n+1,hk,h=>by
  have hr:=(hk r mem_cons_self).1;rw [flatten_cons,List.set_cons_succ,flatten_cons,<-Ie hg (fun r hr=>hk r (dw _ hr)) (by simpa using h),show (n+1) * k=r.length+n * k by rw [Nat.succ_mul];omega,zg]
theorem MH {k:Nat} {gs:List GV} (hg:gs.length=k) (hp:qm gs=true) {rows:List (List GV)} {i:Nat} (h:iw k rows):iw k (rows.set i gs):=fun r hr=>by
 rcases List.mem_or_eq_of_mem_set hr with hr | rfl
 ·exact h r hr
 ·exact ⟨hg,nf hp⟩
section
variable {P:Program} {m:Nat} {ops:Array Oper} {Q:dU} {rest:List Oper} {fr:List GV} {Γ:List Ob} {d:Option Tmp} {ty:TypeId} {pos:String} {af:Array Edge}
theorem GL.abM {x y:Operand} {t:TypeId} {agg:Bool} {k:Nat} [hT:Ty P t agg k] {i n idx E:Nat} {rows:List (List GV)} {v:Value} {gs:List GV} (hx:bb fr x=.vp i n k idx 0) (bM:Γ[i]?=some (.vech E k rows v)) (hn:rows.length=n) (ak:idx < rows.length)
  (hy:lY (bb fr y)=some gs) (hk:Nat.beq gs.length k=true) (F:mO gs=true) (hp:qm gs=true) (h:GL P m ops Q rest (bJ fr d (.v undef)) (oset Γ i (.vech E k (rows.set idx gs) v))):GL P m ops Q (⟨d,.store t x y,ty,pos,af,none⟩::rest) fr Γ:=fun B K β w l hm hI hF=>by
 have hk:gs.length=k:=by simpa using hk
 have Hu:=hF.ev x;rw [hx] at Hu;generalize hv:ev l x=u at Hu
 cases Hu with
 | vp _ _ _ _ _ _ hh =>
  obtain ⟨h0,mm,e1,e2,e3⟩:=hh;obtain ⟨xs,h4,h5,h6,h7,h8⟩:=hI.ob i _ bM;rw [e1] at h4;cases h4;obtain ⟨b,hb,rfl⟩:=e3 hn;obtain ⟨us,lH,me⟩:=(hF.ev y).cells hy
  have Fj:us.length=k:=by rw [me.1,hk]
  have hq:idx * k+k<=rows.length * k:=by
   have:(idx+1) * k<=rows.length * k:=rT k ak;rw [Nat.succ_mul] at this;omega
  rcases h5.2 with ⟨e5,e6⟩ | ⟨g0,cap,cur,e5,LO,hg,rZ,A4,dr,jU⟩
  ·omega
  ·subst e5;simp only [Value.ownBlock,Option.some.injEq] at hb;subst hb;have aaW:rows.length * k<=cap * k:=rT k rZ
   refine WL.st (t:=t) (k:=k) hv rfl hg (by rw [lH];simpa using Fj) (by rw [Nat.add_zero];omega) (by rw [lH];simpa using me.nb F) fun w' hs=>?_
   rw [lH,toList_toArray,Nat.add_zero] at hs;obtain ⟨cur⟩:=cur;rw [vS] at hs;simp only [List.size_toArray,toList_toArray] at dr jU
   have how:jz w' 0 E k (.slice (some ⟨g0,0,none⟩) rows.length cap) rows.length (jq xs (idx * k) us) :=
    ⟨by rw [Ck];exact h5.1,.inr ⟨g0,cap,_,rfl,LO,hs.blk,rZ,A4,by simp [Ck,dr],by rw [toList_toArray,FN _ _ _ _ G,jU]⟩⟩
   have fX:bq K β (jq xs (idx * k) us) (oD rows.flatten (idx * k) gs):=me.jq _ h6;rw [Ie hk h7 ak] at fX
   have fT:(β i).blk=some g0:=by rw [e1];rfl
   have bE:Inv B K β (oset Γ i (.vech E k (rows.set idx gs) (.slice (some ⟨g0,0,none⟩) rows.length cap))) w':=by
    refine ⟨hI.ext.step hs.ext (fun j hj=>?_),hI.kle,hI.ble,hI.loc,hI.fz.ext hs.ext (fun b' o' g' mU he=>?_),fun j y hj=>?_,fun j hj=>hI.out j (by simpa [aZ] using hj),hI.dis,hI.own,hI.kn,hI.tab.step hs.ext (fun j hj=>⟨i,by subst hj;exact fT⟩) (dh.refl K) (fun i b2 h=>.inl ⟨i,h⟩)⟩
    ·subst hj;exact (hI.own i _ fT).symm
    ·subst he;rw [h8 _ rfl] at mU;cases mU
    ·rw [aZ,dx] at hj;split at hj
     ·rename_i ir;split at hj
      ·cases hj;subst ir
       exact ⟨_,by rw [List.length_set];exact e1,by rw [List.length_set];exact how,fX,MH hk hp h7,h8⟩
      ·cases hj
     ·rename_i ir;refine (hI.ob j y hj).ext hs.ext (fun b' bD he=>?_) (dh.refl K) (dX.refl β) rfl (fun _ _ _ h=>h);subst he;exact ir (hI.dis i j _ fT bD)
   exact h B K β w' _ hm bE (hF.put d (.v _))
theorem VX (n:Nat) (z:List Value):(List.replicate n (jW z)).flatten=zs n z:=by
 induction n with
 | zero=>rfl
 | succ n ih=>rw [List.replicate_succ,flatten_cons,ih,zs]
theorem GL.Bi {x:Operand} {t e k iM:Nat} {z:List Value} [hT:pN P t e k iM] [hZ:q9 P t e k z] {dt:Tmp} {n:Nat} (hx:bb fr x=.v (ii (n:Nat))) (hb:n<=1099511627776/\iM * n<=281474976710656)
  (h:∀ a c,GL P m ops Q rest (bJ fr (some dt) (.v (.slice a n c))) (Γ++[.vech e k (List.replicate n (jW z)) (.slice a n c)])) :
  GL P m ops Q (⟨some dt,.makeSlice t x x,ty,pos,af,none⟩::rest) fr Γ:=fun B K β w l hm hI hF=>by
 obtain ⟨hu,⟨i,z0,hi,hz,Pc,dr,zo⟩,hk⟩:=hT.parts;have tA:ev l x=ii (n:Nat):=hF.jF hx;obtain ⟨w',hr,I,h3⟩:=run_make_full (P:=P) (w:=w) 0 t e i z0 k hu hi hz dr .i64 .i64 n (by rw [zo];exact hb.2) (by simp only [maxLen];omega) (aM _)
 have hz0:z0.cells.toList=z:=by
  have h4:=hZ.zero;rw [hi] at h4;simp only [Option.bind_some,hz,Option.some.injEq] at h4;have hl:=hZ.zl
  by_cases F:k=1
  ·rw [ab F] at h4;rw [h4,hZ.one F];subst F
   match z,hl with
   | [a],_=>rfl
  ·rw [L F] at h4;rw [h4];rfl
 have W8:(madeCells z0.cells (n * k)).toList=(List.range (n * k)).map fun j=>z.getD (j % k) undef:=by
  unfold madeCells;rw [Array.toList_map,Array.toList_range];apply List.map_congr_left;intro j _
  have ak:j % k < z0.cells.size:=by rw [Pc];exact Nat.mod_lt _ hk
  rw [Pc,getElem!_pos z0.cells (j % k) ak,<-hz0,List.getD_eq_getElem?_getD,Array.getElem?_toList,Array.getElem?_eq_getElem ak];rfl
 rw [W8] at I;have fX:=IY (K:=K) (β:=β) (n:=n) hZ.zl hZ.pos;rw [<-VX] at fX
 have fx:iw k (List.replicate n (jW z)):=fun r hr=>by
  have:=List.eq_of_mem_replicate hr;subst this;refine ⟨by rw [<-hZ.zl];simp [jW],fun g hg=>?_⟩;unfold jW at hg;obtain ⟨v,_,rfl⟩:=mP.1 hg;rfl
 have ji:Ext jm w w':=⟨h3.os,h3.tape,h3.output,h3.size,fun j hj _=>h3.block j hj (by simp)⟩;have bE:=hI.Gr (x:=.slice (some ⟨w.heap.size,0,none⟩) n n) (rows:=List.replicate n (jW z)) ji (by rw [List.length_replicate];exact I) (fun b hb=>by cases hb;exact aE _) fX fx
 have aa5:(Γ++[Ob.vec e k 0 (List.replicate n (jW z))])[Γ.length]?=some (Ob.vec e k 0 (List.replicate n (jW z))):=by simp
 obtain ⟨a,c,rm,rX⟩:=bE.BQ aa5;rw [bO] at rm
 injection rm with A2 eA
 injection A2 with zm hb4 hb5
 subst zm hb5
 have hos:oset (Γ++[.vec e k 0 (List.replicate n (jW z))]) Γ.length (.vech e k (List.replicate n (jW z)) (.slice (some ⟨w.heap.size,0,none⟩) (List.replicate n (jW z)).length n))=Γ++[.vech e k (List.replicate n (jW z)) (.slice (some ⟨w.heap.size,0,none⟩) (List.replicate n (jW z)).length n)]:=by
  rw [aZ];simp
 rw [hos,List.length_replicate] at rX;refine WL.val (v:=.slice (some ⟨w.heap.size,0,none⟩) n n) (w':=w') (by simp [execOp,tA,hr]) ?_;exact h _ _ B K _ w' _ hm rX ((hF.mono (dh.refl K) (jM (by rw [hI.out _ (aE _)];trivial))).put (some dt) (.v _))
end
end Go.Xg
set_option maxHeartbeats 2000000
namespace Go.Xg
open GV (U)
open Go.RowKit Go.Xw Go.Proofs Tryz
open Go.Xp (Nd Ar)
open Go.Sp (Src)
open Go.Im (wS fC bC pj tG iY eM ph pg pf)
open Go.Im (mx mw mu)
attribute [local irreducible] GW GL GO YG GC GA be bg
theorem SL (l:List Int) (hl:l.length<=1048576):GF prog 138 [ints l] [] (ints l) []:=by
 have hm:(l.map (fun i=>[GV.v (ii i)])).length=l.length:=by simp
 refine ah func138 ntmps138 ?_;refine GL.Bi rfl ⟨by omega,by omega⟩ ?_;intro a c;refine dk ?_;refine D ?_;refine GW.loop (fun k:Nat=>l.length - k) (fun k fr Γ=>∃ R Z,fr=[ints l,U,U,.v (.slice a (l.map (fun i=>[GV.v (ii i)])).length c),.v (ii (k:Nat)),U,U,U,U,U,U,U,U,U,U,U,U,U,U,U,U,U]/\Γ=[.vech 3 1 R (.slice a (l.map (fun i=>[GV.v (ii i)])).length c)]/\k<=l.length/\R=(l.take k).map (fun i=>[GV.v (ii i)])++List.replicate (l.length - k) Z) 0 ?_ ?_
 ·exact ⟨_,_,Wk.aH ar,_,_,rfl,rfl,aM _,by rw [hm];rfl⟩
 rintro k _ _ ⟨R,Z,rfl,rfl,hk,hR⟩
 have l0:R.length=l.length:=by rw [hR];exact mw hk
 have gh:R.length=(l.map (fun i=>[GV.v (ii i)])).length:=by rw [hm];exact l0
 by_cases ak:k < l.length
 ·have hx:l[k]?=some l[k]:=by simp [ak]
  have hr:(l.map (fun i=>[GV.v (ii i)]))[k]?=some ([GV.v (ii l[k])]):=by rw [aP,hx];rfl
  have dZ:decide ((k:Int) < ((l.map (fun i=>[GV.v (ii i)])).length:Int))=true:=by rw [hm];simpa using ak
  have bR:=mx (f:=(fun i=>[GV.v (ii i)])) (Z:=Z) hx;rw [<-hR] at bR;clear hR;generalize l[k]=x at *;refine D ?_;refine lV ?_;refine D ?_;exact ⟨k+1,⟨_,_,Wk.aH ar,_,Z,rfl,rfl,ak,bR⟩,by show l.length - (k+1) < l.length - k;omega⟩
 ·have dZ:decide ((k:Int) < ((l.map (fun i=>[GV.v (ii i)])).length:Int))=false:=by rw [hm];simpa using ak
  have mY:k=l.length:=by omega
  subst mY;rw [mu] at hR;subst hR;refine cw ?_;refine GW.wk (by apply Wk.ui (t:=3) (i:=0) <;> rfl) ?_;simp only [oset,bp];exact ay
theorem Br (l:List ae) (hl:l.length<=1048576):GF prog 31 [strs l] [] (strs l) []:=by
 have hm:(l.map (fun s=>[GV.v (sv s)])).length=l.length:=by simp
 refine ah func31 ntmps31 ?_;refine GL.Bi rfl ⟨by omega,by omega⟩ ?_;intro a c;refine dk ?_;refine D ?_;refine GW.loop (fun k:Nat=>l.length - k) (fun k fr Γ=>∃ R Z,fr=[strs l,U,U,.v (.slice a (l.map (fun s=>[GV.v (sv s)])).length c),.v (ii (k:Nat)),U,U,U,U,U,U,U,U,U,U,U,U,U,U,U,U,U]/\Γ=[.vech 9 1 R (.slice a (l.map (fun s=>[GV.v (sv s)])).length c)]/\k<=l.length/\R=(l.take k).map (fun s=>[GV.v (sv s)])++List.replicate (l.length - k) Z) 0 ?_ ?_
 ·exact ⟨_,_,Wk.aH ar,_,_,rfl,rfl,aM _,by rw [hm];rfl⟩
 rintro k _ _ ⟨R,Z,rfl,rfl,hk,hR⟩
 have l0:R.length=l.length:=by rw [hR];exact mw hk
 have gh:R.length=(l.map (fun s=>[GV.v (sv s)])).length:=by rw [hm];exact l0
 by_cases ak:k < l.length
 ·have hx:l[k]?=some l[k]:=by simp [ak]
  have hr:(l.map (fun s=>[GV.v (sv s)]))[k]?=some ([GV.v (sv l[k])]):=by rw [aP,hx];rfl
  have dZ:decide ((k:Int) < ((l.map (fun s=>[GV.v (sv s)])).length:Int))=true:=by rw [hm];simpa using ak
  have bR:=mx (f:=(fun s=>[GV.v (sv s)])) (Z:=Z) hx;rw [<-hR] at bR;clear hR;generalize l[k]=x at *;refine D ?_;refine lV ?_;refine D ?_;exact ⟨k+1,⟨_,_,Wk.aH ar,_,Z,rfl,rfl,ak,bR⟩,by show l.length - (k+1) < l.length - k;omega⟩
 ·have dZ:decide ((k:Int) < ((l.map (fun s=>[GV.v (sv s)])).length:Int))=false:=by rw [hm];simpa using ak
  have mY:k=l.length:=by omega
  subst mY;rw [mu] at hR;subst hR;refine cw ?_;refine GW.wk (by apply Wk.ui (t:=3) (i:=0) <;> rfl) ?_;simp only [oset,bp];exact ay
theorem FW (x:Ar):GF prog 86 [.agg (az x)] [] (.agg (az x)) []:=by
 refine ah func86 ntmps86 ?_;exact ei
theorem MV (l:List Ar) (hl:l.length<=1048576):GF prog 32 [.sl 2 (l.map az)] [] (.sl 2 (l.map az)) []:=by
 have hm:(l.map az).length=l.length:=by simp
 refine ah func32 ntmps32 ?_;refine GL.Bi rfl ⟨by omega,by omega⟩ ?_;intro a c;refine dk ?_;refine D ?_;refine GW.loop (fun k:Nat=>l.length - k) (fun k fr Γ=>∃ R Z,fr=[.sl 2 (l.map az),U,U,.v (.slice a (l.map az).length c),.v (ii (k:Nat)),U,U,U,U,U,U,U,U,U,U,U,U,U,U,U,U,U,U]/\Γ=[.vech 56 2 R (.slice a (l.map az).length c)]/\k<=l.length/\R=(l.take k).map az++List.replicate (l.length - k) Z) 0 ?_ ?_
 ·exact ⟨_,_,Wk.aH ar,_,_,rfl,rfl,aM _,by rw [hm];rfl⟩
 rintro k _ _ ⟨R,Z,rfl,rfl,hk,hR⟩
 have l0:R.length=l.length:=by rw [hR];exact mw hk
 have gh:R.length=(l.map az).length:=by rw [hm];exact l0
 by_cases ak:k < l.length
 ·have hx:l[k]?=some l[k]:=by simp [ak]
  have hr:(l.map az)[k]?=some (az l[k]):=by rw [aP,hx];rfl
  have dZ:decide ((k:Int) < ((l.map az).length:Int))=true:=by rw [hm];simpa using ak
  have bR:=mx (f:=az) (Z:=Z) hx;rw [<-hR] at bR;have hc:=FW l[k];clear hR;generalize l[k]=x at *;refine D ?_;refine V [] hc ?_;refine lV ?_;refine D ?_;exact ⟨k+1,⟨_,_,Wk.aH ar,_,Z,rfl,rfl,ak,bR⟩,by show l.length - (k+1) < l.length - k;omega⟩
 ·have dZ:decide ((k:Int) < ((l.map az).length:Int))=false:=by rw [hm];simpa using ak
  have mY:k=l.length:=by omega
  subst mY;rw [mu] at hR;subst hR;refine cw ?_;refine GW.wk (by apply Wk.ui (t:=3) (i:=0) <;> rfl) ?_;simp only [oset,bp];exact ay
theorem YL (x:Go.Sp.Fn) (hp:x.params.length<=1048576):GF prog 87 [.agg (au x)] [] (.agg (au x)) []:=by
 have h0:=Br x.params hp;refine ah func87 ntmps87 ?_;refine V [] h0 ?_;exact ei
theorem VS (l:List Go.Sp.Fn) (hl:l.length<=1048576) (he:∀ x∈l,x.params.length<=1048576):GF prog 33 [.sl 3 (l.map au)] [] (.sl 3 (l.map au)) []:=by
 have hm:(l.map au).length=l.length:=by simp
 refine ah func33 ntmps33 ?_;refine GL.Bi rfl ⟨by omega,by omega⟩ ?_;intro a c;refine dk ?_;refine D ?_;refine GW.loop (fun k:Nat=>l.length - k) (fun k fr Γ=>∃ R Z,fr=[.sl 3 (l.map au),U,U,.v (.slice a (l.map au).length c),.v (ii (k:Nat)),U,U,U,U,U,U,U,U,U,U,U,U,U,U,U,U,U,U]/\Γ=[.vech 58 3 R (.slice a (l.map au).length c)]/\k<=l.length/\R=(l.take k).map au++List.replicate (l.length - k) Z) 0 ?_ ?_
 ·exact ⟨_,_,Wk.aH ar,_,_,rfl,rfl,aM _,by rw [hm];rfl⟩
 rintro k _ _ ⟨R,Z,rfl,rfl,hk,hR⟩
 have l0:R.length=l.length:=by rw [hR];exact mw hk
 have gh:R.length=(l.map au).length:=by rw [hm];exact l0
 by_cases ak:k < l.length
 ·have hx:l[k]?=some l[k]:=by simp [ak]
  have hr:(l.map au)[k]?=some (au l[k]):=by rw [aP,hx];rfl
  have dZ:decide ((k:Int) < ((l.map au).length:Int))=true:=by rw [hm];simpa using ak
  have bR:=mx (f:=au) (Z:=Z) hx;rw [<-hR] at bR;have hex:=he _ (bA hx);have hc:=YL l[k] hex;clear hR;generalize l[k]=x at *;refine D ?_;refine V [] hc ?_;refine lV ?_;refine D ?_;exact ⟨k+1,⟨_,_,Wk.aH ar,_,Z,rfl,rfl,ak,bR⟩,by show l.length - (k+1) < l.length - k;omega⟩
 ·have dZ:decide ((k:Int) < ((l.map au).length:Int))=false:=by rw [hm];simpa using ak
  have mY:k=l.length:=by omega
  subst mY;rw [mu] at hR;subst hR;refine cw ?_;refine GW.wk (by apply Wk.ui (t:=3) (i:=0) <;> rfl) ?_;simp only [oset,bp];exact ay
theorem SN (x:Nd) (hp:x.kids.length<=1048576):GF prog 88 [.agg (ax x)] [] (.agg (ax x)) []:=by
 have h0:=SL x.kids hp;refine ah func88 ntmps88 ?_;refine V [] h0 ?_;exact ei
theorem Qo (l:List Nd) (hl:l.length<=1048576) (he:∀ x∈l,x.kids.length<=1048576):GF prog 34 [.sl 5 (l.map ax)] [] (.sl 5 (l.map ax)) []:=by
 have hm:(l.map ax).length=l.length:=by simp
 refine ah func34 ntmps34 ?_;refine GL.Bi rfl ⟨by omega,by omega⟩ ?_;intro a c;refine dk ?_;refine D ?_;refine GW.loop (fun k:Nat=>l.length - k) (fun k fr Γ=>∃ R Z,fr=[.sl 5 (l.map ax),U,U,.v (.slice a (l.map ax).length c),.v (ii (k:Nat)),U,U,U,U,U,U,U,U,U,U,U,U,U,U,U,U,U,U]/\Γ=[.vech 62 5 R (.slice a (l.map ax).length c)]/\k<=l.length/\R=(l.take k).map ax++List.replicate (l.length - k) Z) 0 ?_ ?_
 ·exact ⟨_,_,Wk.aH ar,_,_,rfl,rfl,aM _,by rw [hm];rfl⟩
 rintro k _ _ ⟨R,Z,rfl,rfl,hk,hR⟩
 have l0:R.length=l.length:=by rw [hR];exact mw hk
 have gh:R.length=(l.map ax).length:=by rw [hm];exact l0
 by_cases ak:k < l.length
 ·have hx:l[k]?=some l[k]:=by simp [ak]
  have hr:(l.map ax)[k]?=some (ax l[k]):=by rw [aP,hx];rfl
  have dZ:decide ((k:Int) < ((l.map ax).length:Int))=true:=by rw [hm];simpa using ak
  have bR:=mx (f:=ax) (Z:=Z) hx;rw [<-hR] at bR;have hex:=he _ (bA hx);have hc:=SN l[k] hex;clear hR;generalize l[k]=x at *;refine D ?_;refine V [] hc ?_;refine lV ?_;refine D ?_;exact ⟨k+1,⟨_,_,Wk.aH ar,_,Z,rfl,rfl,ak,bR⟩,by show l.length - (k+1) < l.length - k;omega⟩
 ·have dZ:decide ((k:Int) < ((l.map ax).length:Int))=false:=by rw [hm];simpa using ak
  have mY:k=l.length:=by omega
  subst mY;rw [mu] at hR;subst hR;refine cw ?_;refine GW.wk (by apply Wk.ui (t:=3) (i:=0) <;> rfl) ?_;simp only [oset,bp];exact ay
theorem MX (x:Src) (hg:x.globals.length<=1048576) (ha:x.arrays.length<=1048576) (hf:x.fns.length<=1048576) (vB:∀ f∈x.fns,f.params.length<=1048576) (hn:x.nodes.length<=1048576) (wW:∀ n∈x.nodes,n.kids.length<=1048576):GF prog 8 [.agg (av x)] [] (.agg (av x)) []:=by
 have h0:=Br x.globals hg;have F:=MV x.arrays ha;have I:=VS x.fns hf vB;have h3:=Qo x.nodes hn wW;refine ah func8 ntmps8 ?_;refine V [] h0 ?_;refine V [] F ?_;refine V [] I ?_;refine V [] h3 ?_;exact ei
end Go.Xg
