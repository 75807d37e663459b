/- Part 5 of proofs that are told in their last texts. -/
import Derived.Test.YtfahcenafcklmaaGreatDoorY4
import Derived.IntWalk
import Derived.Laws.IdiomStrings
import Derived.Test.YtfahcenafcklmaaGreatDoorProg
import Derived.KernelRfl
import Derived.Test.YtfahcenafcklmaaGreatDoorY1
import Derived.Test.YtfahcenafcklmaaGreatDoorY2
import Derived.Deep.Slices
import Derived.Deep.Fields
import Derived.ChangeSame
import Derived.Lib.SmallJoins
import Derived.SliceStrings
import Derived.ChangeSlices
import Derived.Lib.LaidU8
import Derived.Shelf.Vars
import Derived.Laws.Bits128
import Derived.Lib.AppendStr
import Derived.Lib.Builder
import Derived.Lib.UnsafeStr
import Derived.Test.YtfahcenafcklmaaGreatDoorY3
import Derived.Laws.OwnMore
open List (cons_append ext_getElem flatten_cons getElem_mem length_append length_cons length_nil mem_cons_self sum_cons)
set_option linter.unusedVariables false
set_option linter.unusedSimpArgs false
set_option maxRecDepth 100000
namespace Go.Xg
open Go.RowKit Go.Xw
section
variable {P:Program} {m:Nat} {Q:dW} {fr:List GV} {Γ:List Ob} {ops:Array Oper} {rest:List Oper} {d:Option Tmp} {op:Op} {ty:TypeId} {pos:String} {af:Array Edge}
theorem GW.join {c y:Code} (K:List GV->List Ob->Prop) (D:GW P m c (bg (Br m K) Q) fr Γ) (X:∀ fr Γ,K fr Γ->GW P m y Q fr Γ):GW P m c (bg (GW P m y Q) Q) fr Γ:=by
 refine D.mono fun e fr Γ hq=>?_
 cases e with
 | normal=>obtain ⟨cX,aV,hw,hk⟩:=hq;exact GW.wk hw (X _ _ hk)
 | _=>exact hq
theorem YG.cm {x y:Operand} {t e:TypeId} {k:Nat} [hT:oK P t e k] {rows:List (List GV)} {kk:IntKind} {n:Int} {i:Nat} {r:List GV} (hx:bf fr x=.sl k rows) (hy:bf fr y=.v (.int kk n)) (hr:rows[i]?=some r) (hi:n=(i:Int)):YG P (.indexAddr t x y) fr Γ (.box r 0):=by
 subst hi;exact YG.gZ hx hy hr
def oB:List (List GV)->Bool
 | []=>true
 | r::rs=>oA r&&oB rs
theorem Dz {rows:List (List GV)} (h:oB rows=true):oA rows.flatten=true:=by
 induction rows with
 | nil=>rfl
 | cons r rs ih =>
  simp only [oB,aI] at h
  have aba:∀ (a b:List GV),oA a=true->oA b=true->oA (a++b)=true:=by
   intro a
   induction a with
   | nil=>intro b _ hb;exact hb
   | cons x a Ak =>
    intro b ha hb;simp only [oA,aI] at ha;simp only [cons_append,oA,aI];exact ⟨ha.1,Ak b ha.2 hb⟩
  rw [flatten_cons];exact aba _ _ h.1 (ih h.2)
theorem GL.app {s x:Operand} {t e k kD:Nat} [hT:qH P t e k kD] {i n fz:Nat} {rows news:List (List GV)} (hx:bf fr x=.sl k news) (hs:bf fr s=.vec i n) (bD:Γ[i]?=some (.vec e k fz rows)) (hn:rows.length=n) (D:oB news=true) (bT:news.isEmpty=false)
  (hb:n+news.length<=9223372036854775807/\(n+news.length) * kD<=140737488355328)
  (h:GL P m ops Q rest (bM fr d (.vec i (n+news.length))) (oset Γ i (.vec e k fz (rows++news)))) :
  GL P m ops Q (⟨d,.call ⟨.builtin .append,#[s,x],#[t,t]⟩,ty,pos,af,none⟩::rest) fr Γ:=fun B K β w l hm hI hF=>by
 subst hn
 have bT:news≠[]:=by intro h0;rw [h0] at bT;cases bT
 obtain ⟨h0,xs,o1,o2,o3,o4,o5,o6⟩:=hI.ob i _ bD;have vB:=hF.ev s;rw [hs] at vB
 have sK:ev l s=h0:=by
  generalize hv:ev l s=v at vB
  cases vB with
  | vec _ _ a c hh =>
   obtain ⟨h',m',e1,e2,e3⟩:=hh;rw [o1] at e1;cases e1;exact e3 rfl
 have rH:=hF.ev x;rw [hx] at rH;generalize vD:ev l x=v at rH
 cases rH with
 | sl0 a c k=>exact absurd rfl bT
 | sl b o c _ _ hr _ =>
  have nA:jx k news:=fun r Pt=>by
   exact zbp
  have Gx:∀ (rows:List (List GV)) (o:Nat),(∀ (j:Nat) r,rows[j]?=some r->r.length=k/\∀ (q:Nat) g,r[q]?=some g->K b (o+j * k+q)=some g)->∀ (q:Nat) g,rows.flatten[q]?=some g->K b (o+q)=some g:=by
   intro rows
   induction rows with
   | nil=>intro o _ q g hg;simp at hg
   | cons r rows ih =>
    intro o h q g hg;rw [flatten_cons] at hg;have hl:=(h 0 r rfl).1
    by_cases hq:q < r.length
    ·rw [ff hq] at hg;have:=(h 0 r rfl).2 q g hg;exact zbT
    ·rw [fA zfw,hl] at hg
     have:=ih (o+k) (fun j r' hj=>by
      have:=h (j+1) r' zfI;refine ⟨this.1,fun q g hg=>?_⟩;have:=this.2 q g hg
      rw [show o+(j+1) * k+q=o+k+j * k+q by rw [Nat.succ_mul];omega] at this;exact this) (q - k) g hg
     rw [show o+k+(q - k)=o+q by omega] at this;exact this
  obtain ⟨us,oe,oU⟩:=yt (K:=K) (β:=β) (H:=w.heap) (b:=b) news.flatten o (fun j g hj=>by
   obtain ⟨hp,u,hu,jq⟩:=hI.fz _ _ _ (Gx news o (fun j r hj=>hr j r hj) j g hj)
   exact ⟨u,hu,jq.pc hp⟩)
  have KS:us.length=news.length * k:=by
   rw [oe.1,List.length_flatten]
   have:∀ (rows:List (List GV)),jx k rows->(rows.map List.length).sum=rows.length * k:=by
    intro rows
    induction rows with
    | nil=>intro _;simp
    | cons r rows ih =>
     intro hk;exact zcn
   exact this news nA
  refine WL.app (base:=0) (v:=h0) (n:=rows.length) (m:=news.length) (xs:=xs) (news:=us) sK o2 vD KS (fun j u hj=>by rw [gk];exact oU j u hj) (oe.oz (Dz D)) hb.1 hb.2 (aX _) ?_;intro v' w' how j0 mM uF
  obtain ⟨K',hK,mR,bA⟩:=hI.grow bD o1 ⟨o2,o3⟩ (news:=news) (ns:=us) how j0 mM oe nA bT (fun b bH o v ho hv=>by
   rcases uF with h7 | h7
   ·exact h7.c hv (fun h=>h)
   ·have jT:o < xs.length:=by rw [o2.1];exact ze ho (sA k o6)
    obtain ⟨b2,c2,nO,_,_,ly⟩:=o2.cells.2 (by intro h0;rw [h0] at jT;simp at jT)
    have ej:b2=b:=by rw [nO] at bH;cases bH;rfl
    subst ej;have FN:=ly o xs[o] (by simp [jT]);rw [gk,hv] at FN;cases FN;obtain ⟨b3,c3,Pf,_,_,Pd⟩:=how.cells.2 (by intro h0;have:xs=[]:=(List.append_eq_nil_iff.1 h0).1;rw [this] at jT;simp at jT)
    have vm:b3=b2:=by rw [Pf,bH] at h7;cases h7;rfl
    subst vm
    rw [<-gk];exact Pd o _ zgp)
  rw [<-bK] at bA;refine h B K' _ w' _ hm bA ((hF.mono hK mR).put d ?_);obtain ⟨a,c,rfl⟩:=how.shape;exact .vec i _ a c ⟨_,_,bC,by simp,fun _=>by simp⟩
theorem Wk.M6 {i o:Nat} {T:TypeId} {cs:List GV} (E k:Nat) (hi:Γ[i]?=some (.box T cs)) (ho:cs[o]?=some (.v (.slice none 0 0))):Wk m fr Γ fr (oset Γ i (.box T (bQ cs o (.vec Γ.length 0)))++[.vec E k 0 []]):=fun B K β w l hm hI hF=>by
 have cl:β Γ.length=.no:=hI.out _ (aH _);have au:i < Γ.length:=(bu hi).1;have bA:=hI.L8 (w':=w) (E:=E) (k:=k) (x:=.slice none 0 0) (xs:=[]) (rows:=[]) (Ext.refl w) (iL.nil w 0 E k) (fun b hb=>by cases hb) bs.nil (fun r hr=>by cases hr);have hle:dI β (fw β Γ.length (.gr (.slice none 0 0) ([]:List (List GV)).length)):=jy zfX;refine ⟨K,_,⟨bA.ext,bA.kle,bA.ble,bA.loc,bA.fz,fun j x hj=>?_,fun j hj=>bA.out j (by simp [bK] at hj |-;exact hj),bA.dis,bA.own,bA.kn,bA.tab⟩,hF.mono (cW.refl K) hle⟩
 by_cases kV:j=i
 ·subst kV;rw [ff (by simp [bK];exact au),bK,eG] at hj;simp [au] at hj;subst hj;obtain ⟨b,vs,D,X,h3,h4⟩:=bA.ob j (.box T cs) (by rw [ff au];exact hi);refine ⟨b,vs,D,X,?_,h4⟩
  have gen:∀ (vs:List Value) (cs:List GV) (o:Nat),bs K (fw β Γ.length (.gr (.slice none 0 0) ([]:List (List GV)).length)) vs cs->cs[o]?=some (.v (.slice none 0 0))->bs K (fw β Γ.length (.gr (.slice none 0 0) ([]:List (List GV)).length)) vs (bQ cs o (.vec Γ.length 0)):=by
   intro vs
   induction vs with
   | nil=>intro cs o h ho;exact zdx
   | cons v vs ih =>
    intro cs o h ho
    cases cs with
    | nil=>simp at ho
    | cons c cs =>
     obtain ⟨a1,a2⟩:=h.qd
     cases o with
     | zero =>
      cases ho;have hv:=Rel.eE a1;subst hv;exact .cons (.vec _ 0 none 0 ⟨_,_,bC,aH _,fun _=>rfl⟩) a2
     | succ o=>exact .cons a1 (ih cs o a2 (by simpa using ho))
  exact gen vs cs o h3 ho
 ·refine bA.ob j x ?_
  by_cases oR:j < Γ.length
  ·rw [ff (by simp [bK];exact oR),bK,eG,ab (fun e=>kV e.symm)] at hj;rw [ff oR];exact hj
  ·rw [fA (by simp [bK];omega)] at hj;rw [fA zfw];simpa [bK] using hj
theorem Wk.Be {i o j n E k fz:Nat} {T:TypeId} {cs:List GV} {rows:List (List GV)} (hi:Γ[i]?=some (.box T cs)) (ho:cs[o]?=some (.vec j n)) (fj:Nat.beq i j=false) (hj:Γ[j]?=some (.vec E k fz rows)) (hn:rows.length=n):Wk m fr Γ fr (oset (oset Γ j (.vec E k n rows)) i (.box T (bQ cs o (.sl k rows)))):=fun B K β w l hm hI hF=>by
 subst hn
 have bT:i≠j:=by intro e;subst e;simp at fj
 obtain ⟨h0,xs,o1,o2,o3,o4,o5,o6⟩:=hI.ob j _ hj;obtain ⟨K',hK,FF,bA⟩:=hI.lr hj;rw [<-bK] at bA;refine ⟨K',β,⟨bA.ext,bA.kle,bA.ble,bA.loc,bA.fz,fun q x hq=>?_,fun q hq=>bA.out q (by simpa [bK] using hq),bA.dis,bA.own,bA.kn,bA.tab⟩,hF.mono hK (dI.refl β)⟩
 by_cases Uf:q=i
 ·subst Uf;have au:q < Γ.length:=(bu hi).1;rw [bK,eG] at hq;simp [bK,au] at hq;subst hq;obtain ⟨b,vs,D,X,h3,h4⟩:=bA.ob q (.box T cs) zfJ;refine ⟨b,vs,D,X,?_,h4⟩
  have gen:∀ (vs:List Value) (cs:List GV) (o:Nat),bs K' β vs cs->cs[o]?=some (.vec j rows.length)->bs K' β vs (bQ cs o (.sl k rows)):=by
   intro vs
   induction vs with
   | nil=>intro cs o h ho;exact zdx
   | cons v vs ih =>
    intro cs o h ho
    cases cs with
    | nil=>simp at ho
    | cons c cs =>
     obtain ⟨a1,a2⟩:=h.qd
     cases o with
     | zero =>
      cases ho;refine .cons ?_ a2
      cases a1 with
      | vec _ _ a c hh =>
       obtain ⟨h',m',e1,e2,e3⟩:=hh;rw [o1] at e1;cases e1;have e4:=e3 rfl
       rcases o2.2 with ⟨e5,e6⟩ | ⟨g,cap,cu,e5,_,_,sG,_⟩
       ·have:rows=[]:=gx e6;subst this;exact .sl0 _ _ _
       ·rw [e5] at e4;cases e4;exact zbW
     | succ o=>exact .cons a1 (ih cs o a2 (by simpa using ho))
  exact gen vs cs o h3 ho
 ·rw [bK,eG,ab (fun e=>Uf e.symm)] at hq;exact bA.ob q x hq
end
class L5 (P:Program) (t:TypeId) (k:outParam IntKind):Prop where
 und:P.underlying t=some (.int k)
class NG (P:Program) (t:TypeId):Prop where
 und:∃ e,P.underlying t=some (.slice e)/\P.underlying e=some (.int .u8)
theorem NG.mk' {P:Program} {t e:TypeId} (h:P.underlying t=some (.slice e)) (k:P.underlying e=some (.int .u8)):NG P t:=⟨e,h,k⟩
section
variable {P:Program} {m:Nat} {Q:dW} {fr:List GV} {Γ:List Ob} {ops:Array Oper} {rest:List Oper} {d:Option Tmp} {op:Op} {ty:TypeId} {pos:String} {af:Array Edge}
theorem YG.mg {x y:Operand} {t t':TypeId} {a b:Int} (hx:bf fr x=.v (.int .u8 a)) (hy:bf fr y=.v (.int .u8 b)) (hb:0<=a - b/\a - b<=255):YG P (.binOp .sub t x y t') fr Γ (.v (.int .u8 (a - b))) :=
 YG.v2 hx hy fun l w h k d ty pos af=>by simp [execOp,eqGuard,h,k,binOp,Op.intArith,IntWalk.u8_in _ hb]
theorem YG.quo {x y:Operand} {t t':TypeId} {a b:Int} (hx:bf fr x=.v (ii a)) (hy:bf fr y=.v (ii b)) (hb:0<=a/\a<=9223372036854775807/\1<=b):YG P (.binOp .quo t x y t') fr Γ (.v (ii (a / b))) :=
 YG.v2 hx hy fun l w h k d ty pos af=>by
  have bT:b≠0:=by omega
  simp [execOp,eqGuard,h,k,binOp,Op.intDiv,bT,IntWalk.i64_quo a b hb]
theorem YG.rem {x y:Operand} {t t':TypeId} {a b:Int} (hx:bf fr x=.v (ii a)) (hy:bf fr y=.v (ii b)) (hb:0<=a/\1<=b):YG P (.binOp .rem t x y t') fr Γ (.v (ii (a % b))) :=
 YG.v2 hx hy fun l w h k d ty pos af=>by
  have bT:b≠0:=by omega
  simp [execOp,eqGuard,h,k,binOp,Op.intDiv,bT,IntWalk.rem_in a b hb.1]
theorem YG.nJ {x:Operand} {s t:TypeId} {k k':IntKind} {a:Int} [hS:L5 P s k'] [hT:L5 P t k] (hx:bf fr x=.v (.int k' a)) (hw:k.wrap a=a):YG P (.convert s t x) fr Γ (.v (.int k a)) :=
 YG.v1 hx fun l w h d ty pos af=>by simp [execOp,h,convert,run_underlying hS.und,run_underlying hT.und,Conv.intToInt,hw]
theorem YG.str {x:Operand} {s t:TypeId} {l:ah} {rows:List (List GV)} [hS:NG P s] [hT:rS P t] (hx:bf fr x=.sl 1 rows) (hr:rows=l.map fun c=>[.v (.int .u8 (c.toNat:Int))]):YG P (.convert s t x) fr Γ (.v (sv l)):=fun B K β w fl hI hF=>by
 subst hr;obtain ⟨e,D,X⟩:=hS.und;have h:=hF.ev x;rw [hx] at h;generalize hv:ev fl x=v at h;refine ⟨_,fun d ty pos af=>?_,.v _⟩
 have key:(convert s t v).run P w=.ok (sv l) w:=by
  generalize nA:(l.map fun c=>[GV.v (.int .u8 (c.toNat:Int))])=rows at h
  cases h with
  | sl0 a c =>
   have:l=[]:=by cases l with | nil=>rfl | cons x l=>simp at nA
   subst this
   cases a with
   | none=>rw [run_convert_bytes_string w s t e none 0 c D X hT.und];simp [Conv.bytesToString];rfl
   | some a=>exact run_convert_bytes_back w s t e a c [] D X hT.und (fun j hj=>by simp at hj)
  | sl b o c _ _ hc _ =>
   have hl:rows.length=l.length:=by rw [<-nA];simp
   rw [hl];refine run_convert_bytes_back w s t e ⟨b,o,none⟩ c l D X hT.und (fun j hj=>?_)
   have bx:rows[j]?=some [GV.v (.int .u8 (l[j].toNat:Int))]:=by rw [<-nA];simp [hj]
   obtain ⟨_,u,hu,jq⟩:=hI.fz _ _ _ ((hc j _ bx).2 0 _ rfl);rw [rT,gk];have:=Rel.eE jq;subst this;simpa using hu
 simp [execOp,hv,key]
end
structure Hid (B:Prop):Prop where
 h:B
structure u7 (aS:List Nat) (C:Prop):Prop where
 h:C
section
variable {P:Program} {m:Nat} {ops:Array Oper} {Q:dW} {rest:List Oper} {fr:List GV} {Γ:List Ob} {d:Option Tmp} {ty:TypeId} {pos:String} {af:Array Edge}
theorem GL.xr {f:FuncId} [hf:aP P f] {aS:List Nat} {args:List Operand} {qz:Array TypeId} {gs:List GV} {jC tE:List Ob} {g:GV} (hc:u7 aS (GF P f gs jC g tE)) (ha:mW (args.map (bf fr)) (nU (cH aS Γ.length) gs)) (eU:kY aS Γ.length=true)
  (bD:seen (cH aS Γ.length) Γ aS jC) (hl:Nat.ble aS.length tE.length=true) (h:GL P m ops Q rest (bM fr d (eI (cH aS Γ.length) g)) (fo Γ aS (tE.map (Ob.eI (cH aS Γ.length))))) :
  GL P m ops Q (⟨d,.call ⟨.value (.func f),args.toArray,qz⟩,ty,pos,af,none⟩::rest) fr Γ:=GL.Zl aS hc.h ha eU bD hl h
theorem GL.WI {f:FuncId} [hf:aP P f] {aS:List Nat} {args:List Operand} {qz:Array TypeId} {gs:List GV} {jC:List Ob} {R:GV->List Ob->Prop} (hc:u7 aS (GC P f gs jC R)) (ha:mW (args.map (bf fr)) (nU (cH aS Γ.length) gs)) (eU:kY aS Γ.length=true)
  (bD:seen (cH aS Γ.length) Γ aS jC) (h:∀ g aV,R g aV->aS.length<=aV.length/\GL P m ops Q rest (bM fr d (eI (cH aS Γ.length) g)) (fo Γ aS (aV.map (Ob.eI (cH aS Γ.length))))) :
  GL P m ops Q (⟨d,.call ⟨.value (.func f),args.toArray,qz⟩,ty,pos,af,none⟩::rest) fr Γ:=GL.Mf aS hc.h ha eU bD h
theorem GL.N9 {f:FuncId} [hf:aP P f] {aS:List Nat} {x:Operand} {first cap:List GV} {args:List Operand} {qz:Array TypeId} {gs:List GV} {jC:List Ob} {R:GV->List Ob->Prop} (hc:u7 aS (GC P f gs jC R)) (hx:bf fr x=.fn (.func f) first cap) (ha:first++args.map (bf fr)++cap=nU (cH aS Γ.length) gs) (eU:kY aS Γ.length=true)
  (bD:seen (cH aS Γ.length) Γ aS jC) (h:∀ g aV,R g aV->aS.length<=aV.length/\GL P m ops Q rest (bM fr d (eI (cH aS Γ.length) g)) (fo Γ aS (aV.map (Ob.eI (cH aS Γ.length))))) :
  GL P m ops Q (⟨d,.call ⟨.value x,args.toArray,qz⟩,ty,pos,af,none⟩::rest) fr Γ:=GL.yo aS hc.h hx ha eU bD h
theorem GL.N8 {f:FuncId} [hf:aP P f] {aS:List Nat} {x:Operand} {args:List Operand} {qz:Array TypeId} {gs:List GV} {jC:List Ob} {R:GV->List Ob->Prop} (hc:u7 aS (GC P f gs jC R)) (hx:bf fr x=.v (.func (.func f) #[] #[])) (ha:args.map (bf fr)=nU (cH aS Γ.length) gs) (eU:kY aS Γ.length=true)
  (bD:seen (cH aS Γ.length) Γ aS jC) (h:∀ g aV,R g aV->aS.length<=aV.length/\GL P m ops Q rest (bM fr d (eI (cH aS Γ.length) g)) (fo Γ aS (aV.map (Ob.eI (cH aS Γ.length))))) :
  GL P m ops Q (⟨d,.call ⟨.value x,args.toArray,qz⟩,ty,pos,af,none⟩::rest) fr Γ:=GL.Zm aS hc.h hx ha eU bD h
end
theorem aE {A : Prop} (s : A := by first | omega | assumption | (simp only [List.length_append,List.length_cons,List.length_nil];omega)) : A := s
theorem az {A : Prop} (s : A := by first | rfl | assumption) : A := s
theorem gM {A : Prop} (s : A := by apply K.len;first | exact YG.ZR rfl | exact YG.SD rfl | exact YG.abO rfl | exact YG.abP rfl | exact YG.lenA rfl) : A := s
theorem dO {A : Prop} (s : A := by first | exact .inr rfl | exact .inl rfl) : A := s
theorem fZ {A : Prop} (s : A := by apply K.ld;first | exact YG.ldL rfl rfl az | exact YG.Sw rfl rfl rfl rfl | exact YG.ldV rfl rfl az az az | exact YG.ldH rfl rfl az az az) : A := s
theorem QT {A : Prop} (s : A := by apply K.ld;first | exact YG.ldL rfl rfl az | exact YG.Yf rfl az | exact YG.Sw rfl rfl rfl rfl | exact YG.Yg rfl rfl rfl | exact YG.ldV rfl rfl az az az | exact YG.ldH rfl rfl az az az) : A := s
theorem fb {A : Prop} (s : A := by apply K.nck;first | exact YG.abV rfl | exact YG.M5 rfl) : A := s
theorem fp {A : Prop} (s : A := by apply K.pick;first | exact YG.UG rfl az | exact YG.UF rfl az) : A := s
theorem aK {A : Prop} (s : A := by assumption) : A := s
theorem fq {A : Prop} (s : A := by omega) : A := s
theorem DQ {A : Prop} (s : A := by apply K.bin;first | exact YG.go rfl | exact YG.kB rfl rfl fq | exact YG.jm rfl rfl | exact YG.jw rfl rfl | exact YG.oM rfl rfl | exact YG.o7 rfl rfl | exact YG.cat rfl rfl fq | exact YG.cat rfl rfl (by simp only [List.length_append,List.length_cons,List.length_nil];omega) | exact YG.addN rfl rfl fq | exact YG.add rfl rfl fq | exact YG.sub rfl rfl fq | exact YG.mul rfl rfl fq | exact YG.mg rfl rfl fq | exact YG.quo rfl rfl fq | exact YG.rem rfl rfl fq | exact YG.iv rfl rfl) : A := s
theorem DR {A : Prop} (s : A := by apply K.qc;first | exact YG.mf rfl rfl rfl fq | exact YG.me rfl rfl fq | exact YG.mc rfl rfl fq | exact YG.gH 1 rfl rfl rfl az) : A := s
theorem UO {A : Prop} (s : A := by apply K.idx;first | exact YG.idxV rfl rfl rfl az fq | exact YG.aQ 0 rfl rfl rfl aE | exact YG.aQ 1 rfl rfl rfl aE | exact YG.aQ 2 rfl rfl rfl aE | exact YG.aQ 3 rfl rfl rfl aE | exact YG.aQ 4 rfl rfl rfl aE | exact YG.aQ 5 rfl rfl rfl aE | exact YG.aQ 6 rfl rfl rfl aE) : A := s
theorem UP {A : Prop} (s : A := by apply K.idx;first | exact YG.gZ rfl rfl aK | exact YG.cm rfl rfl aK rfl | exact YG.cm rfl rfl aK fq | exact YG.kJ rfl rfl fq | exact YG.idxV rfl rfl rfl az fq | exact YG.aQ 0 rfl rfl rfl aE | exact YG.aQ 1 rfl rfl rfl aE | exact YG.aQ 2 rfl rfl rfl aE | exact YG.aQ 3 rfl rfl rfl aE | exact YG.aQ 4 rfl rfl rfl aE | exact YG.aQ 5 rfl rfl rfl aE | exact YG.aQ 6 rfl rfl rfl aE) : A := s
theorem AJ {A : Prop} (s : A := by first | rfl | exact IntWalk.i64_in _ fq | exact IntWalk.u8_in _ fq | assumption) : A := s
theorem I7 {A : Prop} (s : A := by apply K.idx;first | exact YG.gZ rfl rfl aK | exact YG.cm rfl rfl aK rfl | exact YG.cm rfl rfl aK fq | exact YG.kJ rfl rfl fq) : A := s
theorem ft {A : Prop} (s : A := by apply K.Ex;first | exact YG.mkfn0 | exact YG.Ex) : A := s
theorem fJ {A : Prop} (s : A := by apply K.ld;first | exact YG.Yf rfl az | exact YG.Yg rfl rfl rfl) : A := s
theorem QV {A : Prop} (s : A := by apply K.WX;first | exact YG.W0 rfl | exact YG.WY rfl | exact YG.fldV rfl rfl az | exact YG.WZ rfl rfl az) : A := s
theorem NB {A : Prop} (s : A := by first | exact YG.mv | exact YG.mq | exact DQ | exact QV | exact QT | exact gM | exact fb | exact fp | exact UP | exact YG.ext rfl rfl | exact YG.go rfl | exact DR | exact YG.jr rfl rfl aK | exact YG.idxSC rfl rfl aK rfl | exact ft | exact YG.build rfl | exact YG.neg rfl fq | exact YG.jn rfl rfl | exact YG.nJ rfl AJ | exact YG.str rfl az) : A := s
theorem fK {A : Prop} (s : A := by apply K.WX;first | exact YG.W0 rfl | exact YG.WY rfl) : A := s
theorem gh {A : Prop} (s : A := by apply K.WX;first | exact YG.fldV rfl rfl az | exact YG.WZ rfl rfl az) : A := s
theorem UN {A : Prop} (s : A := by first | exact fZ | exact UO | exact gh | exact YG.fY 1 rfl rfl az az | exact YG.mv | exact YG.mq | exact DQ | exact fK | exact fJ | exact gM | exact fb | exact fp | exact I7 | exact YG.ext rfl rfl | exact YG.go rfl | exact DR | exact YG.jr rfl rfl aK | exact YG.idxSC rfl rfl aK rfl | exact ft | exact YG.build rfl | exact YG.neg rfl fq | exact YG.jn rfl rfl | exact YG.nJ rfl AJ | exact YG.str rfl az) : A := s
theorem QU {A : Prop} (s : A := by first | exact fZ | exact UO | exact gh | exact YG.fY 1 rfl rfl az az) : A := s
theorem kQ {A:Prop} (s:A:=by repeat (first | exact da.n | (apply da.w;(· decide +kernel)) | (apply da.y;(· first | (apply YQ.t;(· exact rfl);(· exact rfl);(· exact UN)) | (apply YQ.t;(· exact rfl);(· apply rj;(· exact rfl);(· first | exact rfl | assumption));(· exact UN)) | (apply YQ.f;(· exact rfl);(· apply r6;(· exact rfl);(· first | exact rfl | assumption))))))):A:=s
theorem dd {A:Prop} (s:A:=by (try simp only [bM,bQ,bf,cP,List.length_cons,List.length_nil,Nat.reduceAdd,eI,nU,cH]);rfl):A:=s
theorem dZ {A:Prop} (s:A:=by (try simp only [List.cons_append,List.nil_append,oset,ra,bQ,cP,bf,fo,List.map_cons,List.map_nil,Ob.eI,eI,nU,cH]);rfl):A:=s
theorem uQ {A:Prop} (s:A:=by simp only [bM,bQ,bf,cP];rfl):A:=s
theorem wU {A:Prop} (s:A:=by first | exact mW.refl | (repeat (first | exact mW.nil | exact oI.refl | exact oI.nil | exact oI.U | exact oI.fn0 | refine mW.cons ?_ ?_ | refine oI.agg ?_))):A:=s
theorem qe {A:Prop} (s:A:=by first | exact trivial | exact ⟨rfl,trivial⟩ | exact ⟨rfl,rfl,trivial⟩ | exact ⟨rfl,rfl,rfl,trivial⟩ | exact ⟨rfl,rfl,rfl,rfl,rfl,trivial⟩):A:=s
theorem I {A B:Prop} (h:B) (s:Hid B->A:=by intro hQ;(repeat (first | ((first | (apply GL.q;(· exact NB)) | refine GL.nil ?_ | refine bh ?_ | refine GW.seq ?_ | refine GW.region ?_ | refine GW.skip ?_ | refine iQ ?_ | refine GW.block ?_ | (apply GL.gt;(· exact rfl);(· first | exact rfl | assumption)) | (apply GL.gf;(· exact rfl);(· first | exact rfl | assumption)) | (apply GL.gu;(· exact rfl)) | (apply NO;(· exact rfl);(· first | exact rfl | assumption)) | (apply NN;(· exact rfl);(· first | exact rfl | assumption)));try refine GN uQ ?_) | ((first | (apply GL.alloc;(· simp only [qA,Value.cells,List.map_cons,List.map_nil];rfl)) | (apply GL.box;(· exact rfl)) | (apply GL.st;(· exact rfl);(· exact rfl);(· exact rfl);(· exact rfl);(· exact rfl);(· exact rfl)));refine tQ dd dZ ?_)));exact hQ.1):A:=s ⟨h⟩
theorem ak {A B:Prop} (h:B) (s:Hid B->A:=by intro hQ;(repeat ((first | (apply OPm;(· exact rfl)) | (apply OPa;(· exact rfl)) | (apply OP;(· exact rfl);(· intro Γ;(first | exact DQ | exact fK | exact fJ | exact gM | exact fb | exact I7 | exact YG.ext rfl rfl | exact YG.go rfl | exact DR | exact YG.jr rfl rfl aK | exact YG.idxSC rfl rfl aK rfl | exact ft | exact YG.build rfl | exact YG.neg rfl fq | exact YG.jn rfl rfl | exact YG.nJ rfl AJ | exact YG.str rfl az))) | (apply aau;(· exact rfl);(· exact rfl);(· first | exact rfl | assumption)) | (apply aat;(· exact rfl);(· exact rfl);(· first | exact rfl | assumption)) | (apply aav;(· exact rfl);(· exact rfl);(· first | exact rfl | assumption)) | (apply OQ;(· exact rfl);(· exact QU)) | (apply OPt;(· exact rfl);(· exact rfl);(· first | exact rfl | assumption);(· intro Γ;(first | exact YG.mv | exact YG.mq | exact DQ | exact fK | exact fJ | exact gM | exact fb | exact fp | exact I7 | exact YG.ext rfl rfl | exact YG.go rfl | exact DR | exact YG.jr rfl rfl aK | exact YG.idxSC rfl rfl aK rfl | exact ft | exact YG.build rfl | exact YG.neg rfl fq | exact YG.jn rfl rfl | exact YG.nJ rfl AJ | exact YG.str rfl az))) | (apply OQt;(· exact rfl);(· exact rfl);(· first | exact rfl | assumption);(· exact QU)) | (apply ONf;(· exact rfl);(· exact rfl);(· first | exact rfl | assumption)) | (apply ONu;(· exact rfl);(· exact rfl)) | (apply OAf;(· exact rfl);(· exact rfl);(· first | exact rfl | assumption);(· exact kQ)) | (apply OAu;(· exact rfl);(· exact rfl);(· exact kQ)) | refine GO.nil ?_ | (apply OA;(· exact rfl);(· exact rfl);apply GL.alloc;(· simp only [qA,Value.cells,List.map_cons,List.map_nil];rfl);refine GL.nil (bh (dJ.mk kQ ?_));refine lk dd dZ ?_) | (apply OA;(· exact rfl);(· exact rfl);apply GL.st;(· exact rfl);(· exact rfl);(· exact rfl);(· exact rfl);(· exact rfl);(· exact rfl);refine GL.nil (bh (dJ.mk kQ ?_));refine lk dd dZ ?_) | (apply OA;(· exact rfl);(· exact rfl);apply GL.box;(· exact rfl);refine GL.nil (bh (dJ.mk kQ ?_));refine lk dd dZ ?_));try refine GON uQ ?_));exact hQ.1):A:=s ⟨h⟩
theorem lj {A B:Prop} (h:B) (s:Hid B->A:=by intro hQ;(repeat (first | ((first | (apply GL.q;(· (first | exact YG.mv | exact YG.mq | exact DQ | exact QV | exact QT | exact gM | exact fb | exact fp | exact UP | exact YG.ext rfl rfl | exact YG.go rfl | exact DR | exact YG.jr rfl rfl aK | exact YG.idxSC rfl rfl aK rfl | fail | exact YG.build rfl | exact YG.neg rfl fq | exact YG.jn rfl rfl | exact YG.nJ rfl AJ | exact YG.str rfl az))) | refine GL.nil ?_ | refine bh ?_ | refine GW.seq ?_ | refine GW.region ?_ | refine GW.skip ?_ | refine iQ ?_ | refine GW.block ?_ | (apply GL.gt;(· exact rfl);(· first | exact rfl | assumption)) | (apply GL.gf;(· exact rfl);(· first | exact rfl | assumption)) | (apply GL.gu;(· exact rfl)) | (apply NO;(· exact rfl);(· first | exact rfl | assumption)) | (apply NN;(· exact rfl);(· first | exact rfl | assumption)));try refine GN uQ ?_) | ((first | (apply GL.alloc;(· simp only [qA,Value.cells,List.map_cons,List.map_nil];rfl)) | (apply GL.box;(· exact rfl)) | (apply GL.st;(· exact rfl);(· exact rfl);(· exact rfl);(· exact rfl);(· exact rfl);(· exact rfl)));refine tQ dd dZ ?_)));exact hQ.1):A:=s ⟨h⟩
theorem LU {A B:Prop} (h:B) (s:Hid B->A:=by intro hQ;(repeat (first | ((first | (apply GL.q;(· exact NB)) | refine GL.nil ?_ | refine bh ?_ | refine GW.seq ?_ | refine GW.region ?_ | refine GW.skip ?_ | refine iQ ?_ | (apply GL.gt;(· exact rfl);(· first | exact rfl | assumption)) | (apply GL.gf;(· exact rfl);(· first | exact rfl | assumption)) | (apply GL.gu;(· exact rfl)) | (apply NO;(· exact rfl);(· first | exact rfl | assumption)) | (apply NN;(· exact rfl);(· first | exact rfl | assumption)));try refine GN uQ ?_) | ((first | (apply GL.alloc;(· simp only [qA,Value.cells,List.map_cons,List.map_nil];rfl)) | (apply GL.box;(· exact rfl)) | (apply GL.st;(· exact rfl);(· exact rfl);(· exact rfl);(· exact rfl);(· exact rfl);(· exact rfl)));refine tQ dd dZ ?_)));exact hQ.1):A:=s ⟨h⟩
theorem cM {A B:Prop} (h:B) (s:Hid B->A:=by intro hQ;(try refine GN uQ ?_);exact hQ.1):A:=s ⟨h⟩
theorem mj {A B:Prop} (h:B) (s:Hid B->A:=by intro hQ;(try refine GON uQ ?_);exact hQ.1):A:=s ⟨h⟩
theorem cY {A B:Prop} (h:B) (s:Hid B->A:=by intro hQ;(refine tQ dd dZ ?_);exact hQ.1):A:=s ⟨h⟩
theorem QS {A B:Prop} (h:B) (s:Hid B->A:=by intro hQ;(refine lk dd dZ ?_);exact hQ.1):A:=s ⟨h⟩
theorem jF {A B:Prop} (h:B) (s:Hid B->A:=by intro hQ;((repeat (first | refine GW.exit ?_ | refine Hq ?_ | refine Kx ?_ | refine Vo rfl ?_ | refine iQ ?_ | refine bh ?_)));exact hQ.1):A:=s ⟨h⟩
theorem b6 {A B:Prop} (h:B) (s:Hid B->A:=by intro hQ;((repeat (first | refine GW.ret ?_ | refine lx ?_ | refine lu ?_ | refine bh ?_ | refine iQ ?_));refine rl rfl dO rfl (Nat.le_refl _) rfl rfl ?_);exact hQ.1):A:=s ⟨h⟩
theorem dN {A B:Prop} (h:B) (s:Hid B->A:=by intro hQ;((repeat (first | refine GW.ret ?_ | refine lx ?_ | refine lu ?_ | refine bh ?_ | refine iQ ?_));refine W5 rfl dO (Nat.le_refl _) rfl ?_);exact hQ.1):A:=s ⟨h⟩
theorem Bh {A B:Prop} (h:B) (s:Hid B->A:=by intro hQ;((repeat (first | refine GW.ret ?_ | refine lx ?_ | refine lu ?_ | refine bh ?_ | refine iQ ?_));refine W6 rfl dO rfl rfl (Nat.le_refl _) rfl rfl ?_);exact hQ.1):A:=s ⟨h⟩
theorem EY {A B:Prop} (h:B) (s:Hid B->A:=by intro hQ;((repeat (first | refine GW.ret ?_ | refine lx ?_ | refine lu ?_ | refine bh ?_ | refine iQ ?_));refine W7 rfl dO rfl rfl rfl (Nat.le_refl _) rfl rfl ?_);exact hQ.1):A:=s ⟨h⟩
theorem nr {A B:Prop} (h:B) (s:Hid B->A:=by intro hQ;((repeat (first | refine GW.ret ?_ | refine lx ?_ | refine lu ?_ | refine bh ?_ | refine iQ ?_));refine zQ ?_;refine W7 rfl dO rfl rfl rfl (Nat.le_refl _) rfl rfl ?_);exact hQ.1):A:=s ⟨h⟩
theorem I5 {A B:Prop} (h:B) (s:Hid B->A:=by intro hQ;((repeat (first | refine GW.ret ?_ | refine lx ?_ | refine lu ?_ | refine bh ?_ | refine iQ ?_));refine zQ ?_;refine W6 rfl dO rfl rfl (Nat.le_refl _) rfl rfl ?_);exact hQ.1):A:=s ⟨h⟩
theorem tD {A B:Prop} (h:B) (s:Hid B->A:=by intro hQ;((repeat (first | refine GW.ret ?_ | refine lx ?_ | refine lu ?_ | refine bh ?_ | refine iQ ?_));refine zQ ?_;refine W8 rfl dO rfl rfl rfl (Nat.le_refl _) rfl rfl ?_);exact hQ.1):A:=s ⟨h⟩
theorem Wo {A B:Prop} (h:B) (s:Hid B->A:=by intro hQ;((repeat (first | refine GW.ret ?_ | refine lx ?_ | refine lu ?_ | refine bh ?_ | refine iQ ?_));refine zQ ?_;refine rl rfl dO rfl (Nat.le_refl _) rfl rfl ?_);exact hQ.1):A:=s ⟨h⟩
theorem rz {A B:Prop} (h:B) (s:Hid B->A:=by intro hQ;((repeat (first | refine GW.ret ?_ | refine lx ?_ | refine lu ?_ | refine bh ?_ | refine iQ ?_));refine Zy rfl dO rfl rfl rfl rfl (Nat.le_refl _) rfl rfl ?_);exact hQ.1):A:=s ⟨h⟩
theorem og {A B:Prop} (h:B) (s:Hid B->A:=by intro hQ;((repeat (first | refine GW.ret ?_ | refine lx ?_ | refine lu ?_ | refine bh ?_ | refine iQ ?_));refine O1 rfl dO rfl rfl rfl rfl rfl (Nat.le_refl _) rfl rfl ?_);exact hQ.1):A:=s ⟨h⟩
theorem DP {A B:Prop} (h:B) (s:Hid B->A:=by intro hQ;((repeat (first | refine GW.ret ?_ | refine lx ?_ | refine lu ?_ | refine bh ?_ | refine iQ ?_));refine zQ ?_;refine O1 rfl dO rfl rfl rfl rfl rfl (Nat.le_refl _) rfl rfl ?_);exact hQ.1):A:=s ⟨h⟩
theorem iZ {A B:Prop} (h:B) (s:Hid B->A:=by intro hQ;((repeat (first | refine GW.ret ?_ | refine lx ?_ | refine lu ?_ | refine bh ?_ | refine iQ ?_));refine W8 rfl dO rfl rfl rfl (Nat.le_refl _) rfl rfl ?_);exact hQ.1):A:=s ⟨h⟩
theorem b7 {A B:Prop} (h:B) (s:Hid B->A:=by intro hQ;(refine GL.Yp rfl rfl rfl rfl ?_;refine tQ dd dZ ?_);exact hQ.1):A:=s ⟨h⟩
theorem n7 {A B:Prop} (h:B) (s:Hid B->A:=by intro hQ;(refine GL.Uy rfl rfl rfl rfl ?_;refine tQ dd dZ ?_);exact hQ.1):A:=s ⟨h⟩
theorem fv {A B:Prop} (h:B) (s:Hid B->A:=by intro hQ;(refine GL.push rfl rfl rfl rfl rfl rfl rfl rfl az ⟨⟨by omega,by omega⟩,by decide⟩ ?_;refine tQ dd dZ ?_);exact hQ.1):A:=s ⟨h⟩
theorem EX {A B:Prop} (h:B) (s:Hid B->A:=by intro hQ;(refine OA rfl rfl (GL.Uy rfl rfl rfl rfl (GL.nil (bh (dJ.mk kQ ?_))));refine lk dd dZ ?_);exact hQ.1):A:=s ⟨h⟩
theorem EW {A B:Prop} (h:B) (s:Hid B->A:=by intro hQ;(refine OA rfl rfl (GL.app rfl rfl rfl az rfl rfl (by refine ⟨?_,?_⟩;(· show _+1<=_;omega);(· show (_+1) * _<=_;omega)) (GL.nil (bh (dJ.mk kQ ?_))));refine lk dd dZ ?_);exact hQ.1):A:=s ⟨h⟩
theorem du {A B:Prop} (h:B) (s:Hid B->A:=by intro hQ;(refine OA rfl rfl (GL.Yp rfl rfl rfl rfl (GL.nil (bh (dJ.mk kQ ?_))));refine lk dd dZ ?_);exact hQ.1):A:=s ⟨h⟩
theorem I4 {A B:Prop} (h:B) (s:Hid B->A:=by intro hQ;(refine OA rfl rfl (GL.st rfl rfl rfl rfl rfl rfl (GL.nil (bh (dJ.mk kQ ?_))));refine lk dd dZ ?_);exact hQ.1):A:=s ⟨h⟩
theorem NA {A B:Prop} (h:B) (s:Hid B->A:=by intro hQ;(refine OA rfl rfl (GL.QN 1 (by kernel_rfl) (by kernel_rfl) rfl rfl rfl rfl aK fq (GL.nil (bh (dJ.mk kQ ?_))));refine lk dd dZ ?_);exact hQ.1):A:=s ⟨h⟩
theorem I6 {A B:Prop} (h:B) (s:Hid B->A:=by intro hQ;(refine GL.DL rfl rfl rfl az rfl rfl rfl rfl ?_;refine tQ dd dZ ?_);exact hQ.1):A:=s ⟨h⟩
theorem cV {A B:Prop} (h:B) (s:Hid B->A:=by intro hQ;(refine ⟨by simp,?_⟩;refine tQ dd dZ ?_);exact hQ.1):A:=s ⟨h⟩
theorem dM {A B:Prop} (h:B) (s:Hid B->A:=by intro hQ;(refine GL.nil (bh (dJ.mk kQ ?_));refine lk dd dZ ?_);exact hQ.1):A:=s ⟨h⟩
theorem qs {A:Prop} (s:A:=by simp only [bd,xu];rfl):A:=s
theorem iw {A:Prop} (s:A:=by first | exact mW.refl | exact oI.refl | (repeat (first | exact mW.nil | exact oI.refl | exact oI.nil | exact oI.U | exact oI.fn0 | refine mW.cons ?_ ?_ | refine oI.agg ?_ | refine oI.tup ?_))):A:=s
theorem ar {A:Prop} (s:A:=by repeat (first | exact vc.nil | refine vc.U ?_ | refine vc.eq rfl ?_)):A:=s
theorem kj {A B C:Prop} (aS:List Nat) (c:C) (h:B) (s:u7 aS C->Hid B->A:=by intro hC hQ;(refine GL.xr hC wU rfl qe rfl ?_;refine tQ dd dZ ?_);exact hQ.1):A:=s ⟨c⟩ ⟨h⟩
theorem V {A B C:Prop} (aS:List Nat) (c:C) (h:B) (s:u7 aS C->Hid B->A:=by intro hC hQ;(refine GL.xr hC wU rfl qe rfl ?_;refine tQ dd dZ ?_);refine I ?_;exact hQ.1):A:=s ⟨c⟩ ⟨h⟩
theorem np {A B C:Prop} (aS:List Nat) (c:C) (h:B) (s:u7 aS C->Hid B->A:=by intro hC hQ;(refine OA rfl rfl (GL.xr hC wU rfl qe rfl (GL.nil (bh (dJ.mk kQ ?_))));refine lk dd dZ ?_);exact hQ.1):A:=s ⟨c⟩ ⟨h⟩
theorem aB {A B C:Prop} (aS:List Nat) (c:C) (h:B) (s:u7 aS C->Hid B->A:=by intro hC hQ;(refine OA rfl rfl (GL.xr hC wU rfl qe rfl (GL.nil (bh (dJ.mk kQ ?_))));refine lk dd dZ ?_);refine ak ?_;exact hQ.1):A:=s ⟨c⟩ ⟨h⟩
theorem aas {A B C:Prop} (aS:List Nat) (c:C) (h:B) (s:u7 aS C->Hid B->A:=by intro hC hQ;(refine NS rfl rfl rfl (by first | exact rfl | assumption) (GL.xr hC wU rfl qe rfl (GL.nil (bh (dJ.mk kQ ?_))));refine lk dd dZ ?_);exact hQ.1):A:=s ⟨c⟩ ⟨h⟩
theorem bV {A B C:Prop} (aS:List Nat) (c:C) (h:B) (s:u7 aS C->Hid B->A:=by intro hC hQ;(refine NS rfl rfl rfl (by first | exact rfl | assumption) (GL.xr hC wU rfl qe rfl (GL.nil (bh (dJ.mk kQ ?_))));refine lk dd dZ ?_);refine ak ?_;exact hQ.1):A:=s ⟨c⟩ ⟨h⟩
theorem kl {A B C:Prop} (aS:List Nat) (c:C) (h:B) (s:u7 aS C->Hid B->A:=by intro hC hQ;(refine GL.N8 hC rfl rfl rfl qe ?_;rintro _ _ ⟨rfl,rfl⟩;refine ⟨by simp,?_⟩;refine tQ dd dZ ?_);exact hQ.1):A:=s ⟨c⟩ ⟨h⟩
theorem jB {A B C:Prop} (aS:List Nat) (c:C) (h:B) (s:u7 aS C->Hid B->A:=by intro hC hQ;(refine GL.N9 hC rfl rfl rfl qe ?_;rintro _ _ ⟨rfl,rfl⟩;refine ⟨by simp,?_⟩;refine tQ dd dZ ?_);exact hQ.1):A:=s ⟨c⟩ ⟨h⟩
theorem AH {A B C:Prop} (aS:List Nat) (c:C) (h:B) (s:u7 aS C->Hid B->A:=by intro hC hQ;(refine OA rfl rfl (GL.N8 hC rfl rfl rfl qe ?_);rintro _ _ ⟨rfl,rfl⟩;refine ⟨by simp,(GL.nil (bh (dJ.mk kQ ?_)))⟩;refine lk dd dZ ?_);exact hQ.1):A:=s ⟨c⟩ ⟨h⟩
theorem kP {A B C:Prop} (aS:List Nat) (c:C) (h:B) (s:u7 aS C->Hid B->A:=by intro hC hQ;(refine OA rfl rfl (GL.N9 hC rfl rfl rfl qe ?_);rintro _ _ ⟨rfl,rfl⟩;refine ⟨by simp,(GL.nil (bh (dJ.mk kQ ?_)))⟩;refine lk dd dZ ?_);exact hQ.1):A:=s ⟨c⟩ ⟨h⟩
theorem bU {A B C:Prop} (aS:List Nat) (c:C) (h:B) (s:u7 aS C->Hid B->A:=by intro hC hQ;(refine GL.WI hC wU rfl qe ?_);exact hQ.1):A:=s ⟨c⟩ ⟨h⟩
theorem ei {A B C acH : Prop} (f : C) (n : acH) (h : B) (s : C -> acH -> Hid B -> A := by intro hC hD hQ;refine GC.enter hC hD rfl (by simp only [zR,Hp,Nat.reduceSub];rfl) ?_;exact hQ.1) : A := s f n ⟨h⟩
theorem ai {A B C acH : Prop} (f : C) (n : acH) (h : B) (s : C -> acH -> Hid B -> A := by intro hC hD hQ;refine GC.enter hC hD rfl (by simp only [zR,Hp,Nat.reduceSub];rfl) ?_;refine I ?_;exact hQ.1) : A := s f n ⟨h⟩
theorem al {A : Prop} (s : A := by refine b6 ?_;exact ⟨rfl,rfl⟩) : A := s
theorem aw {A : Prop} (s : A := by refine I ?_;refine b6 ?_;exact ⟨rfl,rfl⟩) : A := s
theorem iJ {A : Prop} (s : A := by refine dN ?_;exact ⟨rfl,rfl⟩) : A := s
theorem oE {A : Prop} (s : A := by refine I ?_;refine dN ?_;exact ⟨rfl,rfl⟩) : A := s
theorem oF {A : Prop} (s : A := by refine Bh ?_;exact ⟨rfl,rfl⟩) : A := s
theorem tC {A : Prop} (s : A := by refine I ?_;refine Bh ?_;exact ⟨rfl,rfl⟩) : A := s
theorem fx {A : Prop} (s : A := by refine iZ ?_;exact ⟨rfl,rfl⟩) : A := s
theorem ry {A : Prop} (s : A := by refine I ?_;refine iZ ?_;exact ⟨rfl,rfl⟩) : A := s
theorem aj {A : Prop} (s : A := by kernel_rfl) : A := s
theorem G {A : Prop} (s : A := by omega) : A := s
theorem n8 {A B : Prop} (h : B) (s : Hid B -> A := by intro hQ;(repeat (first | refine GW.ret ?_ | refine lx ?_ | refine lu ?_ | refine bh ?_ | refine iQ ?_));exact hQ.1) : A := s ⟨h⟩
theorem acF {A : Prop} (s : A := by first | rfl | assumption) : A := s
theorem gO {A : Prop} (s : A := by rintro k _ _ ⟨rfl,rfl,_⟩;exact ⟨rfl,rfl,rfl⟩) : A := s
theorem jP {A : Prop} (s : A := by exact ⟨_,_,Wk.aJ ar,rfl,rfl⟩) : A := s
theorem jQ {A : Prop} (s : A := by exact ⟨_,_,Wk.aJ ar,rfl,rfl,rfl⟩) : A := s
theorem jd {A : Prop} (s : A := by refine I ?_;exact ⟨_,_,Wk.aJ ar,rfl,rfl⟩) : A := s
theorem ea {A : Prop} (s : A := by exact ⟨rfl,rfl,rfl⟩) : A := s
theorem bq {A B : Prop} (h : B) (s : Hid B -> A := by intro hQ;refine ak ?_;refine I ?_;exact hQ.1) : A := s ⟨h⟩
theorem dF {A B : Prop} (h : B) (s : Hid B -> A := by intro hQ;refine I ?_;refine jF ?_;exact hQ.1) : A := s ⟨h⟩
theorem kO {A : Prop} (s : A := by exact ⟨⟨by omega,by omega⟩,by decide⟩) : A := s
theorem aC {A : Prop} (s : A := by decide) : A := s
def ay:Nat->Nat->Ot->Ot
 | _,0,r=>r
 | s,n+1,r=>.q s (ay (s+1) n r)
def abZ:List Nat->Ot->Ot
 | [],r=>r
 | i::l,r=>.q i (abZ l r)
theorem aM {P:Program} {m id:Nat} {ol:List Oper} {Q:dW} {fr:List GV} {Γ:List Ob} (ord:Ot) (h:GO P ol.toArray (Q .normal) ord [] fr Γ) (hm:P.follows .mixedOrders=true:=by kernel_rfl) (eU:(Region.noSelect ol.toArray&&(ord.len==ol.length)&&vN ol.toArray ord (Array.replicate ol.toArray.size false))=true:=by kernel_rfl):GW P m (.region id ol.toArray true) Q fr Γ:=GW.draw ord hm eU h
end Go.Xg
namespace Go.Xw
open Go.Proofs Tryz
open Go.Xg (aj)
instance:aP prog 19:=⟨aj⟩
instance:aP prog 20:=⟨aj⟩
instance:aP prog 21:=⟨aj⟩
instance:aP prog 26:=⟨aj⟩
instance:aP prog 27:=⟨aj⟩
instance:aP prog 28:=⟨aj⟩
instance:aP prog 29:=⟨aj⟩
instance:aP prog 40:=⟨aj⟩
instance:aP prog 46:=⟨aj⟩
instance:aP prog 47:=⟨aj⟩
instance:aP prog 49:=⟨aj⟩
instance:aP prog 51:=⟨aj⟩
instance:aP prog 52:=⟨aj⟩
instance:aP prog 53:=⟨aj⟩
instance:aP prog 54:=⟨aj⟩
instance:aP prog 55:=⟨aj⟩
instance:aP prog 56:=⟨aj⟩
instance:aP prog 57:=⟨aj⟩
instance:aP prog 58:=⟨aj⟩
instance:aP prog 60:=⟨aj⟩
instance:aP prog 61:=⟨aj⟩
instance:aP prog 62:=⟨aj⟩
instance:aP prog 63:=⟨aj⟩
instance:aP prog 64:=⟨aj⟩
instance:aP prog 65:=⟨aj⟩
instance:aP prog 66:=⟨aj⟩
instance:aP prog 67:=⟨aj⟩
instance:aP prog 68:=⟨aj⟩
instance:aP prog 69:=⟨aj⟩
instance:aP prog 70:=⟨aj⟩
instance:aP prog 71:=⟨aj⟩
instance:aP prog 72:=⟨aj⟩
instance:aP prog 73:=⟨aj⟩
instance:aP prog 74:=⟨aj⟩
instance:aP prog 75:=⟨aj⟩
instance:aP prog 76:=⟨aj⟩
instance:aP prog 77:=⟨aj⟩
instance:aP prog 78:=⟨aj⟩
instance:aP prog 79:=⟨aj⟩
instance:aP prog 80:=⟨aj⟩
instance:aP prog 81:=⟨aj⟩
instance:aP prog 82:=⟨aj⟩
instance:aP prog 83:=⟨aj⟩
instance:aP prog 84:=⟨aj⟩
instance:aP prog 86:=⟨aj⟩
instance:aP prog 87:=⟨aj⟩
instance:aP prog 88:=⟨aj⟩
instance:aP prog 90:=⟨aj⟩
instance:aP prog 95:=⟨aj⟩
instance:aP prog 96:=⟨aj⟩
instance:aP prog 101:=⟨aj⟩
instance:aP prog 103:=⟨aj⟩
instance:aP prog 106:=⟨aj⟩
instance:aP prog 107:=⟨aj⟩
instance:aP prog 108:=⟨aj⟩
instance:aP prog 109:=⟨aj⟩
instance:aP prog 110:=⟨aj⟩
instance:aP prog 111:=⟨aj⟩
instance:aP prog 112:=⟨aj⟩
instance:aP prog 113:=⟨aj⟩
instance:aP prog 114:=⟨aj⟩
instance:aP prog 115:=⟨aj⟩
instance:aP prog 116:=⟨aj⟩
instance:aP prog 117:=⟨aj⟩
instance:aP prog 118:=⟨aj⟩
instance:aP prog 119:=⟨aj⟩
instance:aP prog 120:=⟨aj⟩
instance:aP prog 121:=⟨aj⟩
instance:aP prog 122:=⟨aj⟩
instance:aP prog 123:=⟨aj⟩
instance:aP prog 124:=⟨aj⟩
instance:aP prog 125:=⟨aj⟩
instance:aP prog 126:=⟨aj⟩
instance:aP prog 127:=⟨aj⟩
instance:aP prog 128:=⟨aj⟩
instance:aP prog 129:=⟨aj⟩
instance:aP prog 130:=⟨aj⟩
instance:aP prog 131:=⟨aj⟩
instance:aP prog 132:=⟨aj⟩
instance:aP prog 133:=⟨aj⟩
instance:aP prog 134:=⟨aj⟩
instance:aP prog 135:=⟨aj⟩
instance:aP prog 136:=⟨aj⟩
instance:aP prog 137:=⟨aj⟩
instance:aP prog 138:=⟨aj⟩
instance:aP prog 139:=⟨aj⟩
instance:aP prog 140:=⟨aj⟩
instance:aP prog 141:=⟨aj⟩
instance:aP prog 142:=⟨aj⟩
instance:aP prog 143:=⟨aj⟩
instance:aP prog 144:=⟨aj⟩
instance:aP prog 145:=⟨aj⟩
instance:aP prog 146:=⟨aj⟩
instance:aP prog 147:=⟨aj⟩
instance:aP prog 148:=⟨aj⟩
instance:aP prog 150:=⟨aj⟩
instance:aP prog 151:=⟨aj⟩
instance:aP prog 156:=⟨aj⟩
instance:aP prog 158:=⟨aj⟩
instance:aP prog 159:=⟨aj⟩
instance:aP prog 160:=⟨aj⟩
instance:aP prog 161:=⟨aj⟩
instance:aP prog 162:=⟨aj⟩
instance:aP prog 163:=⟨aj⟩
instance:aP prog 164:=⟨aj⟩
instance:aP prog 167:=⟨aj⟩
instance:aP prog 168:=⟨aj⟩
instance:aP prog 169:=⟨aj⟩
instance:aP prog 172:=⟨aj⟩
instance:aP prog 173:=⟨aj⟩
instance:aP prog 174:=⟨aj⟩
instance:aP prog 175:=⟨aj⟩
instance:aP prog 176:=⟨aj⟩
instance:aP prog 177:=⟨aj⟩
instance:aP prog 178:=⟨aj⟩
instance:aP prog 179:=⟨aj⟩
instance:aP prog 180:=⟨aj⟩
instance:aP prog 181:=⟨aj⟩
instance:aP prog 182:=⟨aj⟩
instance:aP prog 183:=⟨aj⟩
instance:aP prog 184:=⟨aj⟩
instance:aP prog 185:=⟨aj⟩
instance:aP prog 186:=⟨aj⟩
instance:aP prog 188:=⟨aj⟩
instance:aP prog 189:=⟨aj⟩
instance:aP prog 190:=⟨aj⟩
instance:aP prog 191:=⟨aj⟩
instance:aP prog 192:=⟨aj⟩
instance:aP prog 193:=⟨aj⟩
instance:aP prog 194:=⟨aj⟩
instance:aP prog 195:=⟨aj⟩
instance:aP prog 196:=⟨aj⟩
instance:aP prog 197:=⟨aj⟩
instance:aP prog 198:=⟨aj⟩
instance:aP prog 199:=⟨aj⟩
instance:aP prog 200:=⟨aj⟩
instance:aP prog 201:=⟨aj⟩
instance:aP prog 202:=⟨aj⟩
instance:aP prog 203:=⟨aj⟩
instance:aP prog 204:=⟨aj⟩
instance:aP prog 205:=⟨aj⟩
instance:aP prog 206:=⟨aj⟩
instance:aP prog 207:=⟨aj⟩
instance:aP prog 208:=⟨aj⟩
instance:aP prog 211:=⟨aj⟩
instance:aP prog 213:=⟨aj⟩
instance:aP prog 214:=⟨aj⟩
instance:aP prog 215:=⟨aj⟩
instance:aP prog 216:=⟨aj⟩
instance:aP prog 217:=⟨aj⟩
instance:aP prog 218:=⟨aj⟩
instance:aP prog 231:=⟨aj⟩
instance:aP prog 232:=⟨aj⟩
instance:aP prog 233:=⟨aj⟩
instance:aP prog 234:=⟨aj⟩
instance:aP prog 236:=⟨aj⟩
instance:aP prog 237:=⟨aj⟩
instance:aP prog 238:=⟨aj⟩
instance:aP prog 239:=⟨aj⟩
instance:aP prog 240:=⟨aj⟩
instance:aP prog 241:=⟨aj⟩
instance:aP prog 242:=⟨aj⟩
instance:aP prog 243:=⟨aj⟩
instance:aP prog 244:=⟨aj⟩
instance:aP prog 245:=⟨aj⟩
instance:aP prog 246:=⟨aj⟩
instance:aP prog 247:=⟨aj⟩
instance:aP prog 249:=⟨aj⟩
instance:aP prog 250:=⟨aj⟩
instance:aP prog 251:=⟨aj⟩
instance:aP prog 252:=⟨aj⟩
instance:aP prog 253:=⟨aj⟩
instance:aP prog 254:=⟨aj⟩
instance:aP prog 255:=⟨aj⟩
instance:aP prog 256:=⟨aj⟩
instance:aP prog 257:=⟨aj⟩
instance:aP prog 258:=⟨aj⟩
instance:aP prog 259:=⟨aj⟩
instance:aP prog 260:=⟨aj⟩
instance:aP prog 262:=⟨aj⟩
instance:aP prog 268:=⟨aj⟩
instance:aP prog 269:=⟨aj⟩
instance:aP prog 270:=⟨aj⟩
instance:aP prog 271:=⟨aj⟩
instance:aP prog 272:=⟨aj⟩
instance:aP prog 273:=⟨aj⟩
instance:aP prog 281:=⟨aj⟩
instance:aP prog 286:=⟨aj⟩
instance:aP prog 287:=⟨aj⟩
instance:aP prog 288:=⟨aj⟩
instance:aP prog 289:=⟨aj⟩
instance:aP prog 290:=⟨aj⟩
instance:aP prog 291:=⟨aj⟩
instance:aP prog 292:=⟨aj⟩
instance:aP prog 297:=⟨aj⟩
instance:aP prog 302:=⟨aj⟩
instance:aP prog 303:=⟨aj⟩
instance:aP prog 308:=⟨aj⟩
instance:aP prog 309:=⟨aj⟩
instance:aP prog 311:=⟨aj⟩
instance:aP prog 312:=⟨aj⟩
instance:aP prog 315:=⟨aj⟩
instance:Ty prog 3 false 1:=⟨aj,aj⟩
instance:qL prog 3 (.int .i64 (0)):=⟨aj⟩
instance:Go.Xg.L5 prog 3 .i64:=⟨aj⟩
instance:Ty prog 5 false 1:=⟨aj,aj⟩
instance:Go.Xg.L5 prog 5 .u8:=⟨aj⟩
instance:Ty prog 9 false 1:=⟨aj,aj⟩
instance:rS prog 9:=⟨aj⟩
instance:Ty prog 22 false 1:=⟨aj,aj⟩
instance:Go.Xg.NG prog 22:=Go.Xg.NG.mk' (e:=5) (aj) (aj)
instance:oK prog 22 5 1:=⟨aj,aj⟩
instance:rR prog 22 5 1 [(.int .u8 (0))]:=⟨aj,aj,aj,rfl,by decide,fun _=>rfl⟩
instance:Ty prog 23 false 1:=⟨aj,aj⟩
instance:qL prog 23 (.slice none 0 0):=⟨aj⟩
instance:oK prog 23 9 1:=⟨aj,aj⟩
instance:qH prog 23 9 1 16:=⟨aj⟩
instance:rR prog 23 9 1 [(.string ⟨#[]⟩)]:=⟨aj,aj,aj,rfl,by decide,fun _=>rfl⟩
instance:Ty prog 24 false 1:=⟨aj,aj⟩
instance:oK prog 24 98 2:=⟨aj,aj⟩
instance:qH prog 24 98 2 24:=⟨aj⟩
instance:rR prog 24 98 2 [(.string ⟨#[]⟩),(.int .i64 (0))]:=⟨aj,aj,aj,rfl,by decide,fun h=>by cases h⟩
instance:Ty prog 25 false 1:=⟨aj,aj⟩
instance:oK prog 25 65 3:=⟨aj,aj⟩
instance:qH prog 25 65 3 48:=⟨aj⟩
instance:rR prog 25 65 3 [(.string ⟨#[]⟩),(.slice none 0 0),(.int .i64 (0))]:=⟨aj,aj,aj,rfl,by decide,fun h=>by cases h⟩
instance:Ty prog 26 false 1:=⟨aj,aj⟩
instance:oK prog 26 78 5:=⟨aj,aj⟩
instance:qH prog 26 78 5 64:=⟨aj⟩
instance:rR prog 26 78 5 [(.int .i64 (0)),(.int .i64 (0)),(.int .i64 (0)),(.string ⟨#[]⟩),(.slice none 0 0)]:=⟨aj,aj,aj,rfl,by decide,fun h=>by cases h⟩
instance:Ty prog 28 true 4:=⟨aj,aj⟩
instance:qL prog 28 (.agg #[(.slice none 0 0),(.slice none 0 0),(.slice none 0 0),(.slice none 0 0)]):=⟨aj⟩
instance:fF prog 28 0 0 1 false:=⟨aj⟩
instance:fF prog 28 1 1 1 false:=⟨aj⟩
instance:fF prog 28 2 2 1 false:=⟨aj⟩
instance:fF prog 28 3 3 1 false:=⟨aj⟩
instance:va prog 28 [(0,1),(1,1),(2,1),(3,1)] [(.slice none 0 0),(.slice none 0 0),(.slice none 0 0),(.slice none 0 0)]:=⟨aj,aj⟩
instance:Ty prog 36 false 1:=⟨aj,aj⟩
instance:qL prog 36 (.slice none 0 0):=⟨aj⟩
instance:oK prog 36 3 1:=⟨aj,aj⟩
instance:qH prog 36 3 1 8:=⟨aj⟩
instance:rR prog 36 3 1 [(.int .i64 (0))]:=⟨aj,aj,aj,rfl,by decide,fun _=>rfl⟩
instance:Ty prog 42 false 1:=⟨aj,aj⟩
instance:qL prog 42 (.slice none 0 0):=⟨aj⟩
instance:oK prog 42 36 1:=⟨aj,aj⟩
instance:qH prog 42 36 1 24:=⟨aj⟩
instance:rR prog 42 36 1 [(.slice none 0 0)]:=⟨aj,aj,aj,rfl,by decide,fun _=>rfl⟩
instance:Ty prog 65 true 3:=⟨aj,aj⟩
instance:qL prog 65 (.agg #[(.string ⟨#[]⟩),(.slice none 0 0),(.int .i64 (0))]):=⟨aj⟩
instance:fF prog 65 0 0 1 false:=⟨aj⟩
instance:fF prog 65 1 1 1 false:=⟨aj⟩
instance:fF prog 65 2 2 1 false:=⟨aj⟩
instance:va prog 65 [(0,1),(1,1),(2,1)] [(.string ⟨#[]⟩),(.slice none 0 0),(.int .i64 (0))]:=⟨aj,aj⟩
instance:Ty prog 70 false 1:=⟨aj,aj⟩
instance:qL prog 70 .nilFunc:=⟨aj⟩
instance:Ty prog 78 true 5:=⟨aj,aj⟩
instance:qL prog 78 (.agg #[(.int .i64 (0)),(.int .i64 (0)),(.int .i64 (0)),(.string ⟨#[]⟩),(.slice none 0 0)]):=⟨aj⟩
instance:fF prog 78 0 0 1 false:=⟨aj⟩
instance:fF prog 78 1 1 1 false:=⟨aj⟩
instance:fF prog 78 2 2 1 false:=⟨aj⟩
instance:fF prog 78 3 3 1 false:=⟨aj⟩
instance:fF prog 78 4 4 1 false:=⟨aj⟩
instance:va prog 78 [(0,1),(1,1),(2,1),(3,1),(4,1)] [(.int .i64 (0)),(.int .i64 (0)),(.int .i64 (0)),(.string ⟨#[]⟩),(.slice none 0 0)]:=⟨aj,aj⟩
instance:Ty prog 79 false 1:=⟨aj,aj⟩
instance:Ty prog 82 false 1:=⟨aj,aj⟩
instance:Ty prog 84 false 1:=⟨aj,aj⟩
instance:oK prog 84 86 6:=⟨aj,aj⟩
instance:qH prog 84 86 6 88:=⟨aj⟩
instance:rR prog 84 86 6 [(.int .i64 (0)),(.int .i64 (0)),(.int .i64 (0)),(.string ⟨#[]⟩),(.slice none 0 0),(.slice none 0 0)]:=⟨aj,aj,aj,rfl,by decide,fun h=>by cases h⟩
instance:Ty prog 86 true 6:=⟨aj,aj⟩
instance:qL prog 86 (.agg #[(.int .i64 (0)),(.int .i64 (0)),(.int .i64 (0)),(.string ⟨#[]⟩),(.slice none 0 0),(.slice none 0 0)]):=⟨aj⟩
instance:fF prog 86 0 0 5 true:=⟨aj⟩
instance:fF prog 86 1 5 1 false:=⟨aj⟩
instance:va prog 86 [(0,5),(5,1)] [(.int .i64 (0)),(.int .i64 (0)),(.int .i64 (0)),(.string ⟨#[]⟩),(.slice none 0 0),(.slice none 0 0)]:=⟨aj,aj⟩
instance:Ty prog 88 false 1:=⟨aj,aj⟩
instance:oK prog 88 168 4:=⟨aj,aj⟩
instance:qH prog 88 168 4 40:=⟨aj⟩
instance:rR prog 88 168 4 [(.int .i64 (0)),(.int .i64 (0)),(.string ⟨#[]⟩),(.int .i64 (0))]:=⟨aj,aj,aj,rfl,by decide,fun h=>by cases h⟩
instance:Ty prog 92 false 1:=⟨aj,aj⟩
instance:oK prog 92 79 1:=⟨aj,aj⟩
instance:qH prog 92 79 1 8:=⟨aj⟩
instance:rR prog 92 79 1 [(.pointer none)]:=⟨aj,aj,aj,rfl,by decide,fun _=>rfl⟩
instance:Ty prog 96 false 1:=⟨aj,aj⟩
instance:Ty prog 98 true 2:=⟨aj,aj⟩
instance:qL prog 98 (.agg #[(.string ⟨#[]⟩),(.int .i64 (0))]):=⟨aj⟩
instance:fF prog 98 0 0 1 false:=⟨aj⟩
instance:fF prog 98 1 1 1 false:=⟨aj⟩
instance:va prog 98 [(0,1),(1,1)] [(.string ⟨#[]⟩),(.int .i64 (0))]:=⟨aj,aj⟩
instance:fF prog 103 0 0 1 false:=⟨aj⟩
instance:fF prog 103 1 1 1 false:=⟨aj⟩
instance:fF prog 103 2 2 1 false:=⟨aj⟩
instance:va prog 103 [(0,1),(1,1),(2,1)] [(.slice none 0 0),(.int .i64 (0)),(.int .i64 (0))]:=⟨aj,aj⟩
instance:Ty prog 106 false 1:=⟨aj,aj⟩
instance:fF prog 125 0 0 5 true:=⟨aj⟩
instance:fF prog 125 1 5 1 false:=⟨aj⟩
instance:va prog 125 [(0,5),(5,1)] [(.int .i64 (0)),(.int .i64 (0)),(.int .i64 (0)),(.string ⟨#[]⟩),(.slice none 0 0),(.slice none 0 0)]:=⟨aj,aj⟩
instance:oK prog 131 23 1:=⟨aj,aj⟩
instance:rR prog 131 23 1 [(.slice none 0 0)]:=⟨aj,aj,aj,rfl,by decide,fun _=>rfl⟩
instance:fF prog 135 0 0 1 false:=⟨aj⟩
instance:fF prog 135 1 1 1 false:=⟨aj⟩
instance:fF prog 135 2 2 1 false:=⟨aj⟩
instance:fF prog 135 3 3 1 false:=⟨aj⟩
instance:fF prog 135 4 4 1 false:=⟨aj⟩
instance:fF prog 135 5 5 1 false:=⟨aj⟩
instance:fF prog 135 6 6 4 true:=⟨aj⟩
instance:va prog 135 [(0,1),(1,1),(2,1),(3,1),(4,1),(5,1),(6,4)] [(.slice none 0 0),(.int .i64 (0)),(.int .i64 (0)),(.int .i64 (0)),(.int .i64 (0)),(.slice none 0 0),(.slice none 0 0),(.slice none 0 0),(.slice none 0 0),(.slice none 0 0)]:=⟨aj,aj⟩
instance:Ty prog 138 true 2:=⟨aj,aj⟩
instance:qL prog 138 (.agg #[.nilFunc,.nilFunc]):=⟨aj⟩
instance:fF prog 138 0 0 1 false:=⟨aj⟩
instance:fF prog 138 1 1 1 false:=⟨aj⟩
instance:va prog 138 [(0,1),(1,1)] [.nilFunc,.nilFunc]:=⟨aj,aj⟩
instance:fF prog 145 0 0 1 false:=⟨aj⟩
instance:fF prog 145 1 1 1 false:=⟨aj⟩
instance:fF prog 145 2 2 1 false:=⟨aj⟩
instance:fF prog 145 3 3 1 false:=⟨aj⟩
instance:fF prog 145 4 4 1 false:=⟨aj⟩
instance:va prog 145 [(0,1),(1,1),(2,1),(3,1),(4,1)] [(.slice none 0 0),(.int .i64 (0)),(.int .i64 (0)),(.int .i64 (0)),(.int .i64 (0))]:=⟨aj,aj⟩
instance:Ty prog 154 false 1:=⟨aj,aj⟩
instance:qL prog 154 .nilFunc:=⟨aj⟩
instance:fF prog 160 0 0 4 true:=⟨aj⟩
instance:fF prog 160 1 4 1 false:=⟨aj⟩
instance:fF prog 160 2 5 1 false:=⟨aj⟩
instance:fF prog 160 3 6 1 false:=⟨aj⟩
instance:va prog 160 [(0,4),(4,1),(5,1),(6,1)] [(.slice none 0 0),(.slice none 0 0),(.slice none 0 0),(.slice none 0 0),(.slice none 0 0),(.int .i64 (0)),(.int .i64 (0))]:=⟨aj,aj⟩
instance:Ty prog 168 true 4:=⟨aj,aj⟩
instance:qL prog 168 (.agg #[(.int .i64 (0)),(.int .i64 (0)),(.string ⟨#[]⟩),(.int .i64 (0))]):=⟨aj⟩
instance:fF prog 168 0 0 1 false:=⟨aj⟩
instance:fF prog 168 1 1 1 false:=⟨aj⟩
instance:fF prog 168 2 2 1 false:=⟨aj⟩
instance:fF prog 168 3 3 1 false:=⟨aj⟩
instance:va prog 168 [(0,1),(1,1),(2,1),(3,1)] [(.int .i64 (0)),(.int .i64 (0)),(.string ⟨#[]⟩),(.int .i64 (0))]:=⟨aj,aj⟩
instance:Ty prog 185 false 1:=⟨aj,aj⟩
instance:qL prog 187 (.agg #[(.pointer none),(.slice none 0 0)]):=⟨aj⟩
instance:fF prog 187 0 0 1 false:=⟨aj⟩
instance:fF prog 187 1 1 1 false:=⟨aj⟩
end Go.Xw
set_option maxHeartbeats 1000000
namespace Go.Xg
open Go.RowKit Go.Xw Go.Proofs Tryz Go.Sp
open Go.Xp (Tok dE)
attribute [local irreducible] GW GL GO YG GC GA bg bj
def cZ (t:Tok):List GV:=[.v (ii t.kind),.v (ii t.n),.v (sv t.s),.v (ii t.at_)]
theorem Rl (t:Tok):GF prog 215 [.agg (cZ t)] [] (.v (sv (dE t))) []:=by
 refine ai func215 ntmps215 ?_;refine GW.cond rfl (fun h=>?_) (fun h=>?_)
 ·refine zb5 ?_
  have h:t.kind≠3:=by simpa using h
  rw [dE,ab h];exact zak
 ·refine zb5 ?_
  have h:t.kind=3:=by simpa using h
  rw [dE,ae h];exact zak
abbrev gW (l:List Tok):GV:=.sl 4 (l.map cZ)
abbrev bP (p:RS):Ob:=.box 145 [gW p.l,.v (ii p.i),.v (ii p.e),.v (ii p.code),.v (ii p.at_)]
theorem lN {l:List Tok} {i:Nat} {t:Tok} (h:l[i]?=some t):(l.map cZ)[i]?=some (cZ t):=by rw [bp,h];rfl
theorem ky (p:RS) (hp:p.ok):GF prog 163 [.loc 0 0] [bP p] (.v (ii p.place)) [bP p]:=by
 obtain ⟨lW,eB⟩:=hp
 cases ht:p.l[p.i]? with
 | some t =>
  have hr:=lN ht;have au:p.i < p.l.length:=(bu ht).1
  have hd:decide ((p.i:Int) < ((p.l.map cZ).length:Int))=true:=by simpa using au
  refine ai func163 ntmps163 ?_;refine aM (ay 0 10 .nil) ?_;refine bq ?_;refine aM (ay 0 12 .nil) ?_;refine bq ?_;refine b6 ?_;rw [RS.place,ht];exact zak
 | none =>
  have au:p.l.length<=p.i:=oH ht
  have hd:decide ((p.i:Int) < ((p.l.map cZ).length:Int))=false:=by simpa using au
  refine ai func163 ntmps163 ?_;refine aM (ay 0 10 .nil) ?_;refine bq ?_;refine b6 ?_;rw [RS.place,ht];exact zak
open GV (U)
theorem c9 (p:RS) (k:Nat) (hp:p.ok) (hk:k<=1):GF prog 159 [.loc 0 0,.v (ii k)] [bP p] (.v (sv (p.sign k))) [bP p]:=by
 obtain ⟨lW,eB⟩:=hp
 by_cases hc:p.code=0
 ·have dw:(p.code != 0)=false:=by simpa using hc
  cases ht:p.l[p.i+k]? with
  | some t =>
   have hr:=lN ht;have au:p.i+k < p.l.length:=(bu ht).1
   have hd:decide (((p.l.map cZ).length:Int)<=((p.i+k:Nat):Int))=false:=by simp;omega
   refine ai func159 ntmps159 ?_;refine aM (ay 0 19 .nil) ?_;refine bq ?_;refine aM (ay 0 12 (.a 12 (.q 13 .nil))) ?_;refine ak ?_;refine aB [] (Rl t) ?_;refine zb5 ?_;rw [RS.sign,ae hc,ht];exact zak
  | none =>
   have au:p.l.length<=p.i+k:=oH ht
   have hd:decide (((p.l.map cZ).length:Int)<=((p.i+k:Nat):Int))=true:=by simp;omega
   refine ai func159 ntmps159 ?_;refine aM (ay 0 19 .nil) ?_;refine bq ?_;refine b6 ?_;rw [RS.sign,ae hc,ht];exact zak
 ·have dw:(p.code != 0)=true:=by simpa using hc
  refine ai func159 ntmps159 ?_;refine aM (ay 0 19 .nil) ?_;refine bq ?_;refine b6 ?_;rw [RS.sign,ab hc];exact zak
theorem kL (p:RS) (c a:Int):GF prog 162 [.loc 0 0,.v (ii c),.v (ii a)] [bP p] (.tup []) [bP (p.fail c a)]:=by
 refine ai func162 ntmps162 ?_;refine GW.cond rfl (fun h=>?_) (fun h=>?_)
 ·refine I ?_;refine dN ?_
  have h:p.code=0:=by simpa using h
  rw [RS.fail,ae h];exact zak
 ·refine I ?_;refine dN ?_
  have h:¬ p.code=0:=by simpa using h
  rw [RS.fail,ab h];exact zak
theorem cJ (p:RS) (s:ah) (hp:p.ok) (hs:s≠[]):GF prog 216 [.loc 0 0,.v (sv s)] [bP p] (.tup []) [bP (p.aL s)]:=by
 refine ai func216 ntmps216 ?_;refine kj [0] (c9 p 0 hp aC) ?_
 by_cases h:p.sign 0=s
 ·have h':(!(p.sign 0==s))=false:=by simp [h]
  have hl:=(dk h hs).1;obtain ⟨lW,eB⟩:=hp;refine I ?_;refine dN ?_;rw [RS.aL,ae h];exact zak
 ·have h':(!(p.sign 0==s))=true:=by simpa using h
  refine I ?_;refine V [0] (ky p hp) ?_;refine V [0] (kL p 7 p.place) ?_;refine dN ?_;rw [RS.aL,ab h];exact zak
open Go.Xp (T one levels)
theorem wF (p:RS) (d:Nat) (hp:p.ok):GF prog 252 [.loc 0 0,.v (ii d)] [bP p] (.tup []) [bP (p.deep d)]:=by
 by_cases h:d > 60
 ·have h':decide ((60:Int) < (d:Int))=true:=by simp;omega
  refine ai func252 ntmps252 ?_;refine V [0] (ky p hp) ?_;refine V [0] (kL p 9 p.place) ?_;refine dN ?_;rw [RS.deep,ae h];exact zak
 ·have h':decide ((60:Int) < (d:Int))=false:=by simp;omega
  refine ai func252 ntmps252 ?_;refine dN ?_;rw [RS.deep,ab h];exact zak
theorem pY (p:RS) (hp:p.ok):GF prog 217 [.loc 0 0] [bP p] (.v (sv p.name.1)) [bP p.name.2]:=by
 obtain ⟨lW,eB⟩:=id hp
 by_cases hc:p.code=0
 ·have dw:(p.code != 0)=false:=by simpa using hc
  cases ht:p.l[p.i]? with
  | some t =>
   have hr:=lN ht;have au:p.i < p.l.length:=(bu ht).1
   have hd:decide (((p.l.map cZ).length:Int)<=(p.i:Int))=false:=by simp;omega
   by_cases hk:t.kind=2
   ·have fk:(t.kind != 2)=false:=by simpa using hk
    by_cases hs:t.s.length > 12
    ·have od:decide ((12:Int) < (t.s.length:Int))=true:=by simp;omega
     refine ai func217 ntmps217 ?_;refine aM (ay 0 24 .nil) ?_;refine bq ?_;refine zcL ?_;refine V [0] (kL p 8 t.at_) ?_;refine b6 ?_;rw [RS.name,ae hc,ht];simp only [ae hk,ae hs];exact zak
    ·have od:decide ((12:Int) < (t.s.length:Int))=false:=by simp;omega
     refine ai func217 ntmps217 ?_;refine aM (ay 0 24 .nil) ?_;refine bq ?_;refine zcL ?_;refine b6 ?_;rw [RS.name,ae hc,ht];simp only [ae hk,ab hs];exact zak
   ·have fk:(t.kind != 2)=true:=by simpa using hk
    refine ai func217 ntmps217 ?_;refine zcV ?_;simp only [ab hk];exact zak
  | none =>
   have au:p.l.length<=p.i:=oH ht
   have hd:decide (((p.l.map cZ).length:Int)<=(p.i:Int))=true:=by simp;omega
   refine ai func217 ntmps217 ?_;refine zcV ?_;exact zak
 ·have dw:(p.code != 0)=true:=by simpa using hc
  refine ai func217 ntmps217 ?_;refine b6 ?_;rw [RS.name,ab hc];exact zak
abbrev ints (l:List Int):GV:=.sl 1 (l.map fun i=>[.v (ii i)])
abbrev strs (l:List ah):GV:=.sl 1 (l.map fun s=>[.v (sv s)])
mutual
def WR:T->List GV
 | .mk n k=>[.v (ii n.kind),.v (ii n.at_),.v (ii n.n),.v (sv n.s),ints n.kids,.sl 6 (bd k)]
def bd:List T->List (List GV)
 | []=>[]
 | t::r=>WR t::bd r
end
abbrev cT (t:T):List GV:=[.v (ii t.n.kind),.v (ii t.n.at_),.v (ii t.n.n),.v (sv t.n.s),ints t.n.kids,.sl 6 (bd t.kids)]
theorem xu (t:T):WR t=cT t:=by
 cases t;rfl
theorem iH (k a:Int) (s:ah) (l:List T) (rows:List (List GV)) (h:bd l=rows):GF prog 253 [.v (ii k),.v (ii a),.v (sv s),.sl 6 rows] [] (.agg (cT (one k a s l))) []:=by
 subst h;refine ai func253 ntmps253 ?_;refine tD ?_;exact zaT
theorem kx:GF prog 144 [] [] (.sl 1 (levels.map fun l=>[strs l])) []:=by
 refine ai func144 ntmps144 ?_
 iterate 10 (refine b7 ?_)
 exact aw
theorem uw {xs:List ah} {k:Nat} {s x:ah} (h:xs[k]?=some x):(xs.take (k+1)).contains s=((xs.take k).contains s || (x==s)):=by
 rw [dh,h,List.contains_append];show (_ || [x].contains s)=_
 congr 1
 exact zbV
theorem ll (xs:List ah) (s:ah) (hl:xs.length<=1099511627776):GF prog 197 [strs xs,.v (sv s)] [] (.v (.bool (xs.contains s))) []:=by
 refine ai func197 ntmps197 ?_;refine GW.range (xs.map fun s=>[GV.v (sv s)]).length (fun k fr Γ=>fr=[strs xs,.v (sv s),U,U,U,U,U,strs xs,.v (ii ((xs.map fun s=>[GV.v (sv s)]).length:Int)),.v (ii k),U,U,U,U,U,U,U]/\Γ=[]/\(xs.take k).contains s=false) ?_ zfz ?_ ?_ ?_
 ·exact jQ
 ·exact gO
 ·rintro k _ _ au ⟨rfl,rfl,hc⟩
  have au:k < xs.length:=by simpa using au
  have hx:xs[k]?=some xs[k]:=by simp [au]
  have hr:(xs.map fun s=>[GV.v (sv s)])[k]?=some [.v (sv xs[k])]:=by simp [au]
  have iT:=uw (s:=s) hx;refine I ?_;refine GW.cond rfl (fun X=>?_) (fun X=>?_)
  ·refine zb5 ?_
   have h3:xs[k]=s:=by simpa using X
   have:s∈xs:=by rw [<-h3];exact getElem_mem _
   exact ze1
  ·exact zdW
 ·rintro _ _ ⟨rfl,rfl,hc⟩;refine zb5 ?_
  have hc:xs.contains s=false:=by simpa using hc
  refine ⟨?_,rfl⟩;show GV.v (.bool false)=_;rw [hc]
end Go.Xg
namespace Go.Xg
open Go.RowKit Go.Xw
section
variable {P:Program} {m:Nat} {Q:dW} {fr:List GV} {Γ:List Ob}
theorem GW.A4 {c y:Code} {B:Nat} (K:List GV->List Ob->Prop) (D:GW P m c (bj B (bg (Br m K) Q)) fr Γ) (X:∀ fr Γ,K fr Γ->GW P m y Q fr Γ):GW P m c (bj B (bg (GW P m y Q) Q)) fr Γ:=by
 refine D.mono fun e fr Γ hq=>?_
 have key:∀ fr Γ,Br m K fr Γ->GW P m y Q fr Γ:=fun fr Γ ⟨cX,aV,hw,hk⟩=>GW.wk hw (X _ _ hk)
 cases e with
 | normal=>exact key _ _ hq
 | exit n =>
  simp only [bj] at hq |-;split
  ·rename_i hn;rw [ae hn] at hq;exact key _ _ hq
  ·rename_i hn;rw [ab hn] at hq;exact hq
 | _=>exact hq
end
section
variable {P:Program} {fn:Func} {m:Nat} {R:GV->List Ob->Prop} {fr:List GV} {Γ:List Ob} {e:Exit}
theorem Zy {n:Nat} {t u:Tmp} {T:TypeId} {k:Nat} [hT:Ty P T true k] {i:Nat} {E:TypeId} {cs:List GV} {g:GV} (hr:fn.results=#[.cell t T,.tmp u]) (he:e=.normal\/e=.ret) (hg:cP fr t=.loc i 0) (bD:Γ[i]?=some (.box E cs)) (hk:cs.length=k) (gR:cP fr u=g)
  (hm:m<=n) (hl:uI n (Γ.take n)=true) (lI:(GV.tup [.agg cs,g]).lt n=true) (h:R (.tup [.agg cs,g]) (Γ.take n)):vl P fn m R e fr Γ :=
 ⟨he,fun B K β w l hB hI hF=>by
  obtain ⟨b,vs,D,X,h3,h4⟩:=hI.ob i _ bD
  have hp:nth l t=.pointer (some ⟨b,0,none⟩):=by
   have:=hF.nth t;rw [hg] at this;generalize nth l t=v at this
   cases this with
   | loc _ _ b' bH=>rw [D] at bH;cases bH;rfl
  have jJ:l.toArray.getD t undef=.pointer (some ⟨b,0,none⟩):=by rw [jW,hp]
  have Dc:=nV (P:=P) (w:=w) (t:=T) (b:=b) (o:=0) (vs:=vs) (k:=k) zgd (fun j v hj=>by
   rw [ed,cell_of_row w b j _ E (0,0) X];simpa using hj)
  have yF:l[t]?.getD undef=.pointer (some ⟨b,0,none⟩):=by simpa using jJ
  refine ⟨.tuple #[.agg vs.toArray,nth l u],K,eN (below n) β,.tup [.agg cs,g],Γ.take n,?_,hI.cut G hl,?_,h⟩
  ·rw [<-jW l u];exact zdX
  ·refine Rel.res ?_ lI;subst gR;have hc:bs K β [.agg vs.toArray,nth l u] [.agg cs,cP fr u]:=.cons (.agg vs cs h3.1 h3.2) (.cons (hF.nth u) .nil)
   exact .tup _ _ hc.1 hc.2⟩
theorem O1 {n:Nat} {t u s:Tmp} {T:TypeId} {k:Nat} [hT:Ty P T true k] {i:Nat} {E:TypeId} {cs:List GV} {g g':GV} (hr:fn.results=#[.cell t T,.tmp u,.tmp s]) (he:e=.normal\/e=.ret) (hg:cP fr t=.loc i 0) (bD:Γ[i]?=some (.box E cs)) (hk:cs.length=k) (gR:cP fr u=g) (Ph:cP fr s=g')
  (hm:m<=n) (hl:uI n (Γ.take n)=true) (lI:(GV.tup [.agg cs,g,g']).lt n=true) (h:R (.tup [.agg cs,g,g']) (Γ.take n)):vl P fn m R e fr Γ :=
 ⟨he,fun B K β w l hB hI hF=>by
  obtain ⟨b,vs,D,X,h3,h4⟩:=hI.ob i _ bD
  have hp:nth l t=.pointer (some ⟨b,0,none⟩):=by
   have:=hF.nth t;rw [hg] at this;generalize nth l t=v at this
   cases this with
   | loc _ _ b' bH=>rw [D] at bH;cases bH;rfl
  have jJ:l.toArray.getD t undef=.pointer (some ⟨b,0,none⟩):=by rw [jW,hp]
  have Dc:=nV (P:=P) (w:=w) (t:=T) (b:=b) (o:=0) (vs:=vs) (k:=k) zgd (fun j v hj=>by
   rw [ed,cell_of_row w b j _ E (0,0) X];simpa using hj)
  have yF:l[t]?.getD undef=.pointer (some ⟨b,0,none⟩):=by simpa using jJ
  refine ⟨.tuple #[.agg vs.toArray,nth l u,nth l s],K,eN (below n) β,.tup [.agg cs,g,g'],Γ.take n,?_,hI.cut G hl,?_,h⟩
  ·rw [<-jW l u,<-jW l s];exact zdX
  ·refine Rel.res ?_ lI;subst gR Ph;have hc:bs K β [.agg vs.toArray,nth l u,nth l s] [.agg cs,cP fr u,cP fr s]:=.cons (.agg vs cs h3.1 h3.2) (.cons (hF.nth u) (.cons (hF.nth s) .nil))
   exact .tup _ _ hc.1 hc.2⟩
end
open Go.Proofs Tryz Go.Sp
open GV (U)
attribute [local irreducible] GW GL GO YG GC GA bg bj
abbrev Fl (c:UInt8):GV:=.v (.int .u8 (c.toNat:Int))
theorem yL (c:UInt8):GF prog 271 [Fl c] [] (.v (.bool (small c))) []:=by
 unfold small;refine ei func271 ntmps271 ?_
 cases h:decide ((97:Int)<=(c.toNat:Int))
 all_goals
  exact aw
theorem yK (c:UInt8):GF prog 269 [Fl c] [] (.v (.bool (ew c))) []:=by
 unfold ew;refine ei func269 ntmps269 ?_
 cases h:decide ((48:Int)<=(c.toNat:Int))
 all_goals
  exact aw
theorem FU (c:UInt8):GF prog 272 [Fl c] [] (.v (.bool (eJ c))) []:=by
 unfold eJ;have hs:=yL c;have hd:=yK c;generalize small c=b1 at *;generalize ew c=b2 at *;refine ai func272 ntmps272 ?_;refine kj [] hs ?_
 cases b1 with
 | true =>
  exact aw
 | false =>
  cases D:decide ((65:Int)<=(c.toNat:Int)) with
  | true =>
   cases X:decide ((c.toNat:Int)<=90) with
   | true =>
    exact aw
   | false =>
    refine I ?_;refine kj [] hd ?_
    cases b2 with
    | true =>
     exact aw
    | false =>
     exact aw
  | false =>
   refine I ?_;refine kj [] hd ?_
   cases b2 with
   | true =>
    exact aw
   | false =>
    exact aw
theorem qV (s t:ah) (a:Nat) (hs:s.length<=1152921504606846976) (ht:t.length<=1152921504606846976) (ha:a<=1152921504606846976) :
  GF prog 268 [.v (sv s),.v (ii (a:Nat)),.v (sv t)] [] (.v (.bool (bY s a t))) []:=by
 by_cases h:a+t.length<=s.length
 ·have h':decide (((a+t.length:Nat):Int)<=(s.length:Int))=true:=by simpa using by omega
  refine ai func268 ntmps268 ?_;refine b6 ?_;unfold bY;rw [decide_eq_true h];exact zak
 ·have h':decide (((a+t.length:Nat):Int)<=(s.length:Int))=false:=by simpa using by omega
  refine ai func268 ntmps268 ?_;refine b6 ?_;unfold bY;rw [decide_eq_false h];exact zak
theorem DJ (s:ah) (a:Nat) (hs:s.length<=1099511627776) (ha:a<=s.length) :
  GF prog 213 [.v (sv s),.v (ii (a:Nat))] [] (.tup [.v (ii ((skip s (s.length+1) a).1:Nat)),.v (ii (skip s (s.length+1) a).2)]) []:=by
 generalize hR:skip s (s.length+1) a=R;refine ai func213 ntmps213 ?_;refine GW.loop (fun x:Nat × Nat=>x.1) (fun x fr Γ=>fr=[.v (sv s),.v (ii (x.2:Nat)),U,U,U,U,U,U,U,U,U,U,U,U,U,U,U,U,U,U,U,U,U,U,U,U,U,U,U,U,U,U,U,U,U,U,U,U,U,U,U,U,U,U,U,U,U,U,U,U,U,U,U,U,U,U,U,U,U,U,U,U,U]/\Γ=[]/\x.2<=s.length/\s.length < x.1+x.2/\skip s x.1 x.2=R) (s.length+1,a) ?_ ?_
 ·exact ⟨_,_,Wk.aJ ar,rfl,rfl,ha,by simp;omega,hR⟩
 ·rintro ⟨f,a⟩ _ _ ⟨rfl,rfl,ha,hf,h⟩;simp only at ha hf h
  cases f with
  | zero=>omega
  | succ f =>
  rw [skip] at h
  cases hc:s[a]? with
  | none =>
   rw [hc] at h;simp only at h;subst h;have kF:s.length<=a:=oH hc
   have hd:decide ((a:Int) < (s.length:Int))=false:=by simpa using kF
   refine dF ?_;exact tC
  | some c =>
   rw [hc] at h;simp only at h;have au:a < s.length:=(bu hc).1
   have hd:decide ((a:Int) < (s.length:Int))=true:=by simpa using au
   have hb:fu c=(((c.toNat:Int)==32) || ((c.toNat:Int)==9) || ((c.toNat:Int)==10) || ((c.toNat:Int)==13)):=rfl
   by_cases kE:fu c=true
   ·rw [ae kE] at h;rw [hb] at kE;have HP:((c.toNat:Int)==32)=true\/(((c.toNat:Int)==32)=false/\((c.toNat:Int)==9)=true)\/(((c.toNat:Int)==32)=false/\((c.toNat:Int)==9)=false/\((c.toNat:Int)==10)=true) \/
      (((c.toNat:Int)==32)=false/\((c.toNat:Int)==9)=false/\((c.toNat:Int)==10)=false/\((c.toNat:Int)==13)=true):=by
     generalize ((c.toNat:Int)==32)=b1 at *;generalize ((c.toNat:Int)==9)=b2 at *;generalize ((c.toNat:Int)==10)=b3 at *;generalize ((c.toNat:Int)==13)=b4 at *;clear hb
     revert kE;cases b1 <;> cases b2 <;> cases b3 <;> cases b4 <;> simp
    clear hb kE
    rcases HP with k1 | ⟨k1,k2⟩ | ⟨k1,k2,k3⟩ | ⟨k1,k2,k3,k4⟩
    all_goals
     refine dF ?_;exact ⟨(f,a+1),⟨_,_,Wk.aJ ar,rfl,rfl,by simp only;omega,by simp only;omega,h⟩,by simp⟩
   ·rw [ab kE] at h;rw [hb] at kE
    have HP:((c.toNat:Int)==32)=false/\((c.toNat:Int)==9)=false/\((c.toNat:Int)==10)=false/\((c.toNat:Int)==13)=false:=by
     generalize ((c.toNat:Int)==32)=b1 at *;generalize ((c.toNat:Int)==9)=b2 at *;generalize ((c.toNat:Int)==10)=b3 at *;generalize ((c.toNat:Int)==13)=b4 at *;clear hb
     revert kE;cases b1 <;> cases b2 <;> cases b3 <;> cases b4 <;> simp
    clear hb kE;obtain ⟨k1,k2,k3,k4⟩:=HP
    by_cases pR:bY s a [47,42]=true
    ·rw [ae pR] at h;have kE:=lC pR;have kE:a+2<=s.length:=kE
     have zX:(!bY s a [47,42])=false:=by rw [pR];rfl
     try simp only at h
     generalize he:fR s s.length (a+2)=e at h;refine I ?_;refine V [] (qV s [47,42] a G aC G) ?_;have Pe:=tH s s.length (a+2) G G;have xB:=uL s s.length (a+2) G;rw [he] at Pe xB;refine GW.A4 (fun fr Γ=>fr=[.v (sv s),.v (ii (a:Nat)),U,U,U,U,.v (ii (e:Nat)),U,U,U,U,U,U,U,U,U,U,U,U,U,U,U,U,U,U,U,U,U,U,U,U,U,U,U,U,U,U,U,U,U,U,U,U,U,U,U,U,U,U,U,U,U,U,U,U,U,U,U,U,U,U,U,U]/\Γ=[]) ?_ ?_
     ·refine GW.loop (fun x:Nat × Nat=>x.1) (fun x fr Γ=>fr=[.v (sv s),.v (ii (a:Nat)),U,U,U,U,.v (ii (x.2:Nat)),U,U,U,U,U,U,U,U,U,U,U,U,U,U,U,U,U,U,U,U,U,U,U,U,U,U,U,U,U,U,U,U,U,U,U,U,U,U,U,U,U,U,U,U,U,U,U,U,U,U,U,U,U,U,U,U]/\Γ=[]/\x.2<=s.length/\fR s x.1 x.2=e) (s.length,a+2) ?_ ?_
      ·exact ⟨_,_,Wk.aJ ar,rfl,rfl,by simp only;omega,he⟩
      ·rintro ⟨g,e'⟩ _ _ ⟨rfl,rfl,hle,vq⟩;simp only at hle vq
       by_cases hstop:e' < s.length
       ·have oP:decide ((e':Int) < (s.length:Int))=true:=by simpa using hstop
        cases qu:bY s e' [42,47] with
        | true =>
         have abb:(!bY s e' [42,47])=false:=by rw [qu];rfl
         have zp:e'=e:=by
          cases g with
          | zero=>exact vq
          | succ g=>rw [fR,ab (by rw [qu];simp)] at vq;exact vq
         subst zp;refine I ?_;refine V [] (qV s [42,47] e' G aC G) ?_;refine jF ?_;exact jP
        | false =>
         have abb:(!bY s e' [42,47])=true:=by rw [qu];rfl
         cases g with
         | zero=>exact absurd ⟨by rw [<-vq];exact hstop,by rw [<-vq];exact qu⟩ Pe
         | succ g =>
          rw [fR,ae ⟨hstop,qu⟩] at vq;refine I ?_;refine V [] (qV s [42,47] e' G aC G) ?_;exact ⟨(g,e'+1),⟨_,_,Wk.aJ ar,rfl,rfl,hstop,vq⟩,by simp⟩
       ·have oP:decide ((e':Int) < (s.length:Int))=false:=by simp;omega
        have zp:e'=e:=by
         cases g with
         | zero=>exact vq
         | succ g=>rw [fR,ab (fun hh=>hstop hh.1)] at vq;exact vq
        subst zp;refine dF ?_;exact jP
     ·rintro _ _ ⟨rfl,rfl⟩
      by_cases hle:s.length<=e
      ·rw [ae hle] at h
       have abu:decide ((s.length:Int)<=(e:Int))=true:=by simpa using hle
       subst h;exact tC
      ·rw [ab hle] at h
       have abu:decide ((s.length:Int)<=(e:Int))=false:=by simp;omega
       have qu:bY s e [42,47]=true:=by
        cases qu:bY s e [42,47] with
        | true=>rfl
        | false=>exact absurd ⟨by omega,qu⟩ Pe
       have qu:=lC qu;have qu:e+2<=s.length:=qu;refine dF ?_;exact ⟨(f,e+2),⟨_,_,Wk.aJ ar,rfl,rfl,qu,by simp only;omega,h⟩,by simp⟩
    ·rw [ab pR] at h
     have zX:(!bY s a [47,42])=true:=by simpa using pR
     subst h;refine I ?_;refine V [] (qV s [47,42] a G aC G) ?_;exact oF
theorem yM:GF prog 250 [] [] (strs words) []:=by
 refine ai func250 ntmps250 ?_;refine b7 ?_;exact aw
theorem MN:GF prog 273 [] [] (strs bX) []:=by
 refine ai func273 ntmps273 ?_;refine b7 ?_;exact aw
theorem PM (s:ah) (hs:s.length<=1099511627776):GF prog 249 [.v (sv s)] [] (.v (.bool (word s))) []:=by
 refine ai func249 ntmps249 ?_;refine GW.loop (fun a:Nat=>s.length - a) (fun a fr Γ=>fr=[.v (sv s),U,U,.v (ii (a:Nat)),U,U,U,U,U,U,U,U,U,U,U,U,U,U,U,U,U,U]/\Γ=[]/\a<=s.length/\(s.take a).all eJ=true) 0 ?_ ?_
 ·exact ⟨_,_,Wk.aJ ar,rfl,rfl,aX _,rfl⟩
 ·rintro a _ _ ⟨rfl,rfl,ha,ba⟩
  cases hc:s[a]? with
  | some c =>
   have au:a < s.length:=(bu hc).1
   have hd:decide ((a:Int) < (s.length:Int))=true:=by simpa using au
   have bL:(s.take (a+1)).all eJ=((s.take a).all eJ&&eJ c):=by
    rw [dh,hc,List.all_append];simp
   have hp:=FU c
   cases hn:eJ c with
   | true =>
    rw [hn] at hp;refine I ?_;refine V [] hp ?_;exact ⟨a+1,⟨_,_,Wk.aJ ar,rfl,rfl,au,by rw [bL,ba,hn];rfl⟩,by omega⟩
   | false =>
    rw [hn] at hp;refine I ?_;refine V [] hp ?_;refine b6 ?_;refine ⟨?_,rfl⟩
    have hw:word s=false:=by
     have:s.all eJ=false:=by
      rw [List.all_eq_false];exact ⟨c,br hc,by rw [hn];decide⟩
     unfold word;rw [this];rfl
    rw [hw];rfl
  | none =>
   have kF:s.length<=a:=oH hc
   have hd:decide ((a:Int) < (s.length:Int))=false:=by simpa using kF
   have ba:s.all eJ=true:=by rw [mn kF] at ba;exact ba
   cases s with
   | nil =>
    exact zdy
   | cons c r =>
    have hr:(c::r)[0]?=some c:=rfl;refine za1 ?_;refine V [] (yL c) ?_;refine b6 ?_;refine ⟨?_,rfl⟩;unfold word;rw [ba];rfl
theorem eW (s:ah) (hs:s.length<=1099511627776):GF prog 191 [.v (sv s)] [] (.v (.bool (bN s))) []:=by
 have hw:=PM s hs;unfold bN;generalize word s=b at *;refine ai func191 ntmps191 ?_;refine kj [] hw ?_
 cases b with
 | false =>
  exact aw
 | true =>
  by_cases nN:s.length<=12
  ·have aa5:decide ((s.length:Int)<=12)=true:=by simpa using by omega
   refine I ?_;refine V [] yM ?_;refine V [] (ll words s aC) ?_;refine b6 ?_;rw [decide_eq_true nN];exact zak
  ·have aa5:decide ((s.length:Int)<=12)=false:=by simpa using by omega
   refine zb5 ?_;rw [decide_eq_false nN];exact zak
theorem Jv (s:ah) (a:Nat) (hs:s.length<=1099511627776) (ha:a<=s.length) :
  GF prog 270 [.v (sv s),.v (ii (a:Nat))] [] (.tup [.agg (cZ ⟨1,(number s (s.length+1) 0 a).1,[],a⟩),.v (ii ((number s (s.length+1) 0 a).2:Nat))]) []:=by
 generalize hR:number s (s.length+1) 0 a=R;generalize ha0:a=a0 at *;refine ai func270 ntmps270 ?_;refine GW.loop (fun x:Nat × Int × Nat=>x.1) (fun x fr Γ=>fr=[.v (sv s),.v (ii (x.2.2:Nat)),U,U,.loc 0 0,U,.loc 1 0,U,U,U,U,U,U,U,U,U,U,U,U,U,U,U,U,U,U,U,U,U,U,U,U,U,U,U,U,U]/\Γ=[.box 168 [.v (ii 0),.v (ii 0),.v (sv []),.v (ii 0)],.box 168 (cZ ⟨1,x.2.1,[],a0⟩)]/\x.2.2<=s.length/\s.length < x.1+x.2.2/\number s x.1 x.2.1 x.2.2=R/\0<=x.2.1/\x.2.1<=21474836479) (s.length+1,0,a0) ?_ ?_
 ·exact ⟨_,_,Wk.aJ ar,rfl,rfl,by simp only;omega,by simp only;omega,by rw [<-hR],by simp,by simp⟩
 ·rintro ⟨f,n,a⟩ _ _ ⟨rfl,rfl,ha,hf,h,vu,xH⟩;simp only at ha hf h vu xH
  cases f with
  | zero=>omega
  | succ f =>
  rw [number] at h
  cases hc:s[a]? with
  | none =>
   rw [hc] at h;simp only at h;subst h;have kF:s.length<=a:=oH hc
   have hd:decide ((a:Int) < (s.length:Int))=false:=by simpa using kF
   refine za1 ?_;refine rz ?_;exact zak
  | some c =>
   rw [hc] at h;simp only at h;have au:a < s.length:=(bu hc).1
   have hd:decide ((a:Int) < (s.length:Int))=true:=by simpa using au
   have oQ:=yK c
   cases hdc:ew c with
   | false =>
    rw [hdc] at oQ;rw [ab (by rw [hdc];simp)] at h;subst h;refine I ?_;refine V [] oQ ?_;refine jF ?_;refine I ?_;refine rz ?_;exact zak
   | true =>
    rw [hdc] at oQ;rw [ae hdc] at h
    have Ai:(48:Int)<=(c.toNat:Int)/\(c.toNat:Int)<=57:=by
     simp only [ew,aI,decide_eq_true_eq] at hdc;exact hdc
    by_cases hn:n<=2147483647
    ·rw [ae hn] at h
     have xG:decide (n<=2147483647)=true:=by simpa using hn
     refine I ?_;refine V [] oQ ?_;refine aM (ay 0 10 (.a 10 .nil)) ?_;refine bq ?_;exact ⟨(f,n * 10+((c.toNat:Int) - 48),a+1),⟨_,_,Wk.aJ ar,rfl,rfl,au,by simp only;omega,h,by simp only;omega,by simp only;omega⟩,by simp⟩
    ·rw [ab hn] at h
     have xG:decide (n<=2147483647)=false:=by simpa using hn
     refine I ?_;refine V [] oQ ?_;exact ⟨(f,n,a+1),⟨_,_,Wk.aJ ar,rfl,rfl,au,by simp only;omega,h,vu,xH⟩,by simp⟩
open Go.Xp (Tok)
theorem OK {xs:List ah} {p:ah->Bool} {k:Nat} {x:ah} (h:(xs.take k).find? p=none) (hx:xs[k]?=some x) (hp:p x=true):xs.find? p=some x:=by
 have au:=(bu hx).1
 have:xs=xs.take k++x::xs.drop (k+1):=by
  have D:=List.take_append_drop k xs;rw [oG au] at D;rw [(bu hx).2] at D;exact D.symm
 rw [this,List.find?_append,h];simp [List.find?_cons,hp]
theorem OJ {xs:List ah} {p:ah->Bool} {k:Nat} {x:ah} (h:(xs.take k).find? p=none) (hx:xs[k]?=some x) (hp:p x=false):(xs.take (k+1)).find? p=none:=by
 rw [dh,hx,List.find?_append,h];simp [List.find?_cons,hp]
theorem JQ:∀ x∈bX,x.length<=1152921504606846976:=by decide
theorem HU (s:ah) (a:Nat) (c:UInt8) (hs:s.length<=1099511627776) (hc:s[a]?=some c) :
  GF prog 214 [.v (sv s),.v (ii (a:Nat))] [] (.tup [.agg (cZ (gw s a c).1),.v (ii ((gw s a c).2:Nat))]) []:=by
 have au:a < s.length:=(bu hc).1;have oQ:=yK c;have kW:=yL c;unfold gw
 cases hdc:ew c with
 | true =>
  rw [hdc] at oQ;rw [ae rfl];refine ai func214 ntmps214 ?_;refine V [] oQ ?_;refine V [] (Jv s a hs G) ?_;refine rz ?_;exact zak
 | false =>
  rw [hdc] at oQ;rw [ab aC]
  cases hsc:small c with
  | true =>
   rw [hsc] at kW;rw [ae rfl];have hre:=qn s eJ (s.length+1) a G G;have hw0:(s.take (fS s a)).drop a=ir s a:=rfl;have XC:run s eJ (s.length+1) a=fS s a:=rfl;rw [XC] at hre;generalize he:fS s a=e at *;generalize hw:ir s a=w at *;have hw:=hw0;have he:=XC;refine ai func214 ntmps214 ?_;refine V [] oQ ?_;refine V [] kW ?_;refine GW.A4 (fun fr Γ=>fr=[.v (sv s),.v (ii (a:Nat)),U,U,.loc 0 0,U,.v (ii (e:Nat)),U,U,U,U,U,U,U,U,U,U,U,U,U,U,U,U,U,U,U,U,U,U,U,U,U,U,U,U,U,U,U,U,U,U,U,U,U,U,U,U,U,U,U,U,U,U,U,U,U,U,U,U,U,U,U,U,U,U,U,U,U,U]/\Γ=[.box 168 [.v (ii 0),.v (ii 0),.v (sv []),.v (ii 0)]]) ?_ ?_
   ·refine GW.loop (fun x:Nat × Nat=>x.1) (fun x fr Γ=>fr=[.v (sv s),.v (ii (a:Nat)),U,U,.loc 0 0,U,.v (ii (x.2:Nat)),U,U,U,U,U,U,U,U,U,U,U,U,U,U,U,U,U,U,U,U,U,U,U,U,U,U,U,U,U,U,U,U,U,U,U,U,U,U,U,U,U,U,U,U,U,U,U,U,U,U,U,U,U,U,U,U,U,U,U,U,U,U]/\Γ=[.box 168 [.v (ii 0),.v (ii 0),.v (sv []),.v (ii 0)]]/\x.2<=s.length/\s.length < x.1+x.2/\run s eJ x.1 x.2=e) (s.length+1,a) ?_ ?_
    ·exact ⟨_,_,Wk.aJ ar,rfl,rfl,by simp only;omega,by simp only;omega,he⟩
    ·rintro ⟨f,b⟩ _ _ ⟨rfl,rfl,hb,hf,h⟩;simp only at hb hf h
     cases f with
     | zero=>omega
     | succ f =>
     rw [run] at h
     cases BE:s[b]? with
     | none =>
      rw [BE] at h;simp only at h;subst h;have kF:s.length<=b:=oH BE
      have hd:decide ((b:Int) < (s.length:Int))=false:=by simpa using kF
      refine dF ?_;exact jP
     | some cb =>
      rw [BE] at h;simp only at h;have sc:b < s.length:=(bu BE).1
      have hd:decide ((b:Int) < (s.length:Int))=true:=by simpa using sc
      have hp:=FU cb
      cases hn:eJ cb with
      | true =>
       rw [hn] at hp;rw [ae hn] at h;refine I ?_;refine V [] hp ?_;exact ⟨(f,b+1),⟨_,_,Wk.aJ ar,rfl,rfl,sc,by simp only;omega,h⟩,by simp⟩
      | false =>
       rw [hn] at hp;rw [ab (by rw [hn];decide)] at h;subst h;refine I ?_;refine V [] hp ?_;refine jF ?_;exact jP
   ·rintro _ _ ⟨rfl,rfl⟩;obtain ⟨_,D,X⟩:=hre;refine I ?_;rw [hw];have zZ:=ll words w aC
    cases hcw:words.contains w with
    | true =>
     rw [hcw] at zZ;refine zdt ?_;rw [ae rfl];exact zak
    | false =>
     rw [hcw] at zZ;refine zdt ?_;rw [ab aC];exact zak
  | false =>
   rw [hsc] at kW;rw [ab aC];refine ai func214 ntmps214 ?_;refine V [] oQ ?_;refine V [] kW ?_;refine V [] MN ?_;refine GW.range (bX.map fun s=>[GV.v (sv s)]).length (fun k fr Γ=>fr=[.v (sv s),.v (ii (a:Nat)),U,U,.loc 0 0,U,U,U,U,U,U,U,U,U,U,U,U,U,U,U,U,U,U,U,U,U,U,U,U,U,U,U,U,U,U,U,U,U,U,U,U,U,U,U,U,U,U,U,U,strs bX,.v (ii ((bX.map fun s=>[GV.v (sv s)]).length:Int)),.v (ii (k:Nat)),U,U,U,U,U,U,U,U,U,U,U,U,U,U,U,U,U]/\Γ=[.box 168 [.v (ii 0),.v (ii 0),.v (sv []),.v (ii 0)]]/\(bX.take k).find? (bY s a)=none) ?_ aC ?_ ?_ ?_
   ·exact jQ
   ·exact gO
   ·rintro k _ _ hk ⟨rfl,rfl,hf⟩
    have hk:k < bX.length:=by simpa using hk
    have hx:bX[k]?=some bX[k]:=by simp [hk]
    have hr:(bX.map fun s=>[GV.v (sv s)])[k]?=some [.v (sv bX[k])]:=by simp [hk]
    have zr:=JQ _ (getElem_mem hk);generalize bX[k]=x at *;have pR:=qV s x a G zr G
    cases hb:bY s a x with
    | true =>
     rw [hb] at pR;have Pg:=OK hf hx hb;refine I ?_;refine V [] pR ?_;refine rz ?_;rw [Pg];exact zak
    | false =>
     rw [hb] at pR;refine I ?_;refine V [] pR ?_;exact ⟨rfl,rfl,_,_,Wk.aJ ar,rfl,rfl,OJ hf hx hb⟩
   ·rintro _ _ ⟨rfl,rfl,hf⟩
    have hf:bX.find? (bY s a)=none:=by
     rw [mn zfu] at hf;exact hf
    refine I ?_;refine rz ?_;rw [hf];exact zak
theorem IZ {s:ah} {a:Nat} {c:UInt8} (hc:s[a]?=some c):a<=(gw s a c).2/\(gw s a c).2<=s.length:=by
 have au:a < s.length:=(bu hc).1;unfold gw;split
 ·exact (uP s (s.length+1) 0 a G G).2
 ·split
  ·exact (qn s eJ (s.length+1) a G G).2
  ·split
   ·rename_i x hx;have:=lC (List.find?_some hx);exact ⟨Nat.le_add_right _ _,this⟩
   ·exact ⟨aH _,by omega⟩
theorem PQ (s:ah) (l:List Tok) (hs:s.length<=1000000000000) (h:Go.Sp.gW s=some l) :
  GF prog 195 [.v (sv s)] [] (Go.Xg.gW l) []:=by
 rw [Go.Sp.gW] at h;have Ui:=DJ s 0 G (aX _);have rG:=u5 s (s.length+1) 0 (aX _);generalize hS:skip s (s.length+1) 0=R at *;refine ai func195 ntmps195 ?_;refine n7 ?_;refine I ?_;refine V [] Ui ?_;refine GW.loop (fun x:Nat × Nat × List Tok=>x.1) (fun x fr Γ=>∃ n rows,fr=[.v (sv s),U,U,.vec 0 n,.v (ii (x.2.1:Nat)),U,U,U,U,U,U,U,U,U,U,U,U,U,U,U,U,U,U,U,U,U,U,U,U,U,U,U,U,U,U]/\Γ=[.vec 168 4 0 rows]/\rows.length=n/\rows=x.2.2.map cZ/\n+x.1<=s.length+2/\x.2.1<=s.length/\sx s x.1 x.2.1 x.2.2=some l) (s.length+2,R.1,[]) ?_ ?_
 ·exact ⟨_,_,Wk.aJ ar,0,[],rfl,rfl,rfl,rfl,by simp,rG.2,h⟩
 ·rintro ⟨f,a,acc⟩ _ _ ⟨n,rows,rfl,rfl,hn,bx,uf,ha,h⟩;simp only at bx uf ha h
  cases f with
  | zero=>simp [sx] at h
  | succ f =>
  rw [sx] at h
  cases hc:s[a]? with
  | none =>
   rw [hc] at h;simp only at h;cases h;have kF:s.length<=a:=oH hc
   have hd:decide ((a:Int) < (s.length:Int))=false:=by simpa using kF
   subst bx;refine za1 ?_;refine GW.wk (Wk.lr (t:=2) rfl rfl rfl hn) ?_;exact al
  | some c =>
   rw [hc] at h;simp only at h;have au:a < s.length:=(bu hc).1
   have hd:decide ((a:Int) < (s.length:Int))=true:=by simpa using au
   have nz:=IZ hc;have iF:=HU s a c G hc;generalize gw s a c=tk at *;have MF:=DJ s tk.2 G nz.2;have R4:=u5 s (s.length+1) tk.2 nz.2;generalize skip s (s.length+1) tk.2=R2 at *;refine I ?_;refine V [] iF ?_;refine zcG ?_;refine V [] MF ?_;exact ⟨(f,R2.1,acc++[tk.1]),⟨_,_,(Wk.cut (n:=1) (dP rfl) rfl).trans (Wk.aJ ar),_,_,rfl,rfl,by simp [hn],by rw [mo,bx];rfl,by simp only;omega,by simp only;omega,h⟩,by simp⟩
open Go.Xp (T one levels)
structure GY (f:Nat):Prop where
 expr:∀ d p t q,p.ok->d+f<=4611686018427387904->mE f (.expr d) p=some (t,q)->GF prog 289 [.loc 0 0,.v (ii (d:Nat))] [bP p] (.agg (cT t)) [bP q]
 level:∀ k d p t q,p.ok->k<=9->d+f<=4611686018427387904->mE f (.level k d) p=some (t,q)->GF prog 302 [.loc 0 0,.v (ii (k:Nat)),.v (ii (d:Nat))] [bP p] (.agg (cT t)) [bP q]
 operand:∀ d p t q,p.ok->d+f<=4611686018427387904->mE f (.operand d) p=some (t,q)->GF prog 308 [.loc 0 0,.v (ii (d:Nat))] [bP p] (.agg (cT t)) [bP q]
 named:∀ a s d p t q,p.ok->d+f<=4611686018427387904->mE f (.named a s d) p=some (t,q)->GF prog 311 [.loc 0 0,.v (ii a),.v (sv s),.v (ii (d:Nat))] [bP p] (.agg (cT t)) [bP q]
 list:∀ d p l q,p.ok->d+f<=4611686018427387904->mL f d p=some (l,q)->GF prog 315 [.loc 0 0,.v (ii (d:Nat))] [bP p] (.sl 6 (bd l)) [bP q]
theorem WU {f:Nat} (C:GY f) (d:Nat) (p:RS) (t:T) (q:RS) (hp:p.ok) (hd:d+(f+1)<=4611686018427387904) (h:mE (f+1) (.expr d) p=some (t,q)) :
  GF prog 289 [.loc 0 0,.v (ii (d:Nat))] [bP p] (.agg (cT t)) [bP q]:=by
 rw [mE] at h;refine ai func289 ntmps289 ?_;refine V [0] (wF p d hp) ?_;refine V [0] (C.level 0 d _ t q ((ik hp d).ok hp) G G h) ?_;exact fx
theorem Li {k:Nat} (hk:k < 9):(levels.map fun l=>[strs l])[k]?=some [strs (levels.getD k [])]:=by
 have:k < levels.length:=hk;rw [bp,ct this,List.getD_eq_getElem?_getD,ct this];rfl
theorem Ep:∀ k,k < 9->(levels.getD k []).length<=1099511627776:=by decide
abbrev zT:List GV:=[.v (ii 0),.v (ii 0),.v (ii 0),.v (sv []),.v (.slice none 0 0),.v (.slice none 0 0)]
theorem VF {f:Nat} (C:∀ f',f'<=f->GY f') (k d:Nat) (p:RS) (t:T) (q:RS) (hp:p.ok) (hk:k<=9) (hd:d+(f+1)<=4611686018427387904) (h:mE (f+1) (.level k d) p=some (t,q)) :
  GF prog 302 [.loc 0 0,.v (ii (k:Nat)),.v (ii (d:Nat))] [bP p] (.agg (cT t)) [bP q]:=by
 rw [mE] at h
 by_cases BI:k=9
 ·subst BI;rw [ae rfl] at h;refine ai func302 ntmps302 ?_;refine V [] kx ?_;refine V [0] ((C f (aH _)).operand (d+1) p t q hp G h) ?_;exact fx
 ·rw [ab BI] at h
  have abq:((k:Int)==9)=false:=by simp;omega
  cases he:mE f (.level (k+1) d) p with
  | none=>exact zaX
  | some r =>
   obtain ⟨out,p1⟩:=r;rw [he] at h;simp only at h;have lW:=((tJ f).1 _ _ _ _ hp he).ok hp;refine ai func302 ntmps302 ?_;refine V [] kx ?_;refine V [0] ((C f (aH _)).level (k+1) d p out p1 hp G G he) ?_;refine GW.loop (fun x:Nat × T × RS=>x.1) (fun x fr Γ=>fr=[.loc 0 0,.v (ii (k:Nat)),.v (ii (d:Nat)),U,U,U,.loc 1 0,.loc 2 0,U,U,U,U,U,U,U,U,U,U,U,U,U,U,U,U,U,U,U,U,U,U,U,U,U,U,U,U,U,U,U,U,U,U,U,U,U,U,U,U,U,U,U,U,U,U,U,U,U,U,U,U,U,U,U,U,U,U]/\Γ=[bP x.2.2,.box 86 zT,.box 86 (cT x.2.1)]/\x.2.2.ok/\x.1<=f/\mE x.1 (.loop k d x.2.1) x.2.2=some (t,q)) (f,out,p1) ?_ ?_
   ·exact ⟨_,_,Wk.aJ ar,rfl,rfl,lW,aH _,h⟩
   ·rintro ⟨g,out,p⟩ _ _ ⟨rfl,rfl,hp,Da,h⟩;simp only at hp Da h
    cases g with
    | zero=>simp [mE] at h
    | succ g =>
    rw [mE] at h
    have hk:k < 9:=by omega
    by_cases hc:p.code=0
    ·have dw:(p.code==0)=true:=by simpa using hc
     have BJ:=Li hk
     by_cases hit:(levels.getD k []).contains (p.sign 0)=true
     ·rw [ae ⟨hc,hit⟩] at h
      cases ht:p.l[p.i]? with
      | none=>rw [ht] at h;cases h
      | some tk =>
       rw [ht] at h;simp only at h;have au:=(bu ht).1;have hr:=lN ht;have c8:=hp.2
       cases hb:mE g (.level (k+1) d) p.next with
       | none=>exact za0
       | some r =>
        obtain ⟨b,p2⟩:=r;rw [hb] at h;simp only at h;have dU:=(cE au).ok hp;have eB:=((tJ g).1 _ _ _ _ dU hb).ok dU;refine zbk ?_;refine I ?_;refine zcL ?_;refine aM (ay 0 9 (.a 9 (.a 10 (.a 11 (.a 12 .nil))))) ?_;refine ak ?_;refine aB [0] ((C g G).level (k+1) d p.next b p2 dU G G hb) ?_;refine zau ?_;refine np [] (iH 6 tk.at_ tk.s [out,b] _ qs) ?_;refine I4 ?_;refine bq ?_;exact ⟨(g,one 6 tk.at_ tk.s [out,b],p2),⟨_,_,(Wk.cut (n:=3) (dP rfl) rfl).trans (Wk.aJ ar),rfl,rfl,eB,by omega,h⟩,by simp⟩
     ·have hit:(levels.getD k []).contains (p.sign 0)=false:=by simpa using hit
      rw [ab (by rw [hit];simp)] at h
      obtain ⟨rfl,rfl⟩:out=t/\p=q:=by simpa using h
      refine zbk ?_;refine dF ?_;exact ry
    ·have dw:(p.code==0)=false:=by simpa using hc
     rw [ab (fun hh=>hc hh.1)] at h
     obtain ⟨rfl,rfl⟩:out=t/\p=q:=by simpa using h
     refine I ?_;refine aM (ay 0 6 (.q 7 (.q 10 (.a 6 (.q 8 (.q 9 (.a 11 (.a 12 (.q 13 .nil))))))))) ?_;refine bq ?_;refine jF ?_;exact ry
theorem VL {f:Nat} (C:GY f) (a:Int) (s:ah) (d:Nat) (p:RS) (t:T) (q:RS) (hp:p.ok) (hd:d+(f+1)<=4611686018427387904) (h:mE (f+1) (.named a s d) p=some (t,q)) :
  GF prog 311 [.loc 0 0,.v (ii a),.v (sv s),.v (ii (d:Nat))] [bP p] (.agg (cT t)) [bP q]:=by
 rw [mE] at h
 by_cases D:p.sign 0=[91]
 ·rw [ae D] at h
  have dp:(p.sign 0==[91])=true:=by simp [D]
  have au:=(dk D aC).1;have c8:=hp.2;have dU:=(dC D aC).ok hp
  cases he:mE f (.expr (d+1)) p.next with
  | none=>exact zaX
  | some r =>
   obtain ⟨b,p1⟩:=r;rw [he] at h;cases h;have lW:=((tJ f).1 _ _ _ _ dU he).ok dU;refine ai func311 ntmps311 ?_;refine V [0] (c9 p 0 hp aC) ?_;refine V [0] (C.expr (d+1) p.next b p1 dU G he) ?_;refine V [0] (cJ p1 [93] lW aC) ?_;refine zal ?_;refine V [] (iH 3 a s [b] _ qs) ?_;exact fx
 ·rw [ab D] at h
  have dp:(p.sign 0==[91])=false:=by simpa using D
  by_cases X:p.sign 0=[40]
  ·rw [ae X] at h
   have rF:(p.sign 0==[40])=true:=by simp [X]
   have au:=(dk X aC).1;have c8:=hp.2;have dU:=(dC X aC).ok hp
   cases he:mL f (d+1) p.next with
   | none=>exact zaX
   | some r =>
    obtain ⟨l,p1⟩:=r;rw [he] at h;cases h;refine ai func311 ntmps311 ?_;refine V [0] (c9 p 0 hp aC) ?_;refine V [0] (C.list (d+1) p.next l q dU G he) ?_;refine V [] (iH 4 a s l _ rfl) ?_;exact fx
  ·rw [ab X] at h
   have rF:(p.sign 0==[40])=false:=by simpa using X
   cases h;refine ai func311 ntmps311 ?_;refine V [0] (c9 p 0 hp aC) ?_;refine V [] (iH 2 a s [] [] rfl) ?_;exact fx
theorem be (l:List T):(bd l).length=l.length:=by
 induction l with
 | nil=>rfl
 | cons a l ih=>simp [bd,ih]
theorem zJ (l:List T) (a:T):bd (l++[a])=bd l++[cT a]:=by
 induction l with
 | nil=>simp [bd,xu]
 | cons b l ih=>simp [bd,ih]
theorem Yl {f:Nat} (C:∀ f',f'<=f->GY f') (d:Nat) (p:RS) (l:List T) (q:RS) (hp:p.ok) (hd:d+(f+1)<=4611686018427387904) (h:mL (f+1) d p=some (l,q)) :
  GF prog 315 [.loc 0 0,.v (ii (d:Nat))] [bP p] (.sl 6 (bd l)) [bP q]:=by
 rw [mL] at h
 by_cases D:p.sign 0=[41]
 ·rw [ae D] at h
  have dp:(!(p.sign 0==[41]))=false:=by simp [D]
  cases h;refine ai func315 ntmps315 ?_;refine n7 ?_;refine zci ?_;refine V [0] (cJ p [41] hp aC) ?_;refine GW.wk (Wk.lr (t:=4) rfl rfl rfl rfl) ?_;exact al
 ·rw [ab D] at h
  have dp:(!(p.sign 0==[41]))=true:=by simpa using D
  cases he:mE f (.expr d) p with
  | none=>exact zaX
  | some r =>
   obtain ⟨a,p1⟩:=r;rw [he] at h;simp only at h;have lW:=((tJ f).1 _ _ _ _ hp he).ok hp;refine ai func315 ntmps315 ?_;refine n7 ?_;refine zci ?_;refine V [0] ((C f (aH _)).expr d p a p1 hp G he) ?_;refine zcG ?_;refine GW.loop (fun x:Nat × List T × RS=>x.1) (fun x fr Γ=>∃ n rows,fr=[.loc 0 0,.v (ii (d:Nat)),U,U,U,.vec 1 n,U,U,U,U,U,U,U,U,U,U,U,U,U,U,U,U,U,U,U,U,U,U,U,U,U,U,U,U,U]/\Γ=[bP x.2.2,.vec 86 6 0 rows]/\rows.length=n/\rows=bd x.2.1/\n<=x.2.2.i+1/\x.2.2.ok/\x.1<=f/\rK x.1 d x.2.1 x.2.2=some (l,q)) (f,[a],p1) ?_ ?_
   ·exact ⟨_,_,Wk.aJ ar,_,_,rfl,rfl,rfl,(by simp only [bd,xu];rfl),(by show 1<=p1.i+1;omega),lW,aH _,h⟩
   ·rintro ⟨g,acc,p⟩ _ _ ⟨n,rows,rfl,rfl,hn,bx,Ud,hp,Da,h⟩;simp only at bx Ud hp Da h
    cases g with
    | zero=>simp [rK] at h
    | succ g =>
    rw [rK] at h;have c8:=hp.2;have FJ:=hp.1
    by_cases X:p.sign 0=[44]
    ·rw [ae X] at h
     have rF:(p.sign 0==[44])=true:=by simp [X]
     have au:=(dk X aC).1;have dU:=(dC X aC).ok hp
     cases hb:mE g (.expr d) p.next with
     | none=>exact za0
     | some r =>
      obtain ⟨b,p2⟩:=r;rw [hb] at h;simp only at h;have Uk:=(tJ g).1 _ _ _ _ dU hb;have eB:=Uk.ok dU;have r9:p.i+1<=p2.i:=Uk.2.2.2;refine zci ?_;refine V [0] ((C g G).expr d p.next b p2 dU G hb) ?_;refine zcG ?_;exact ⟨(g,acc++[b],p2),⟨_,_,Wk.aJ ar,_,_,rfl,rfl,by simp [hn],by rw [zJ,bx],by simp only;omega,eB,by simp only;omega,h⟩,by simp⟩
    ·rw [ab X] at h
     have rF:(p.sign 0==[44])=false:=by simpa using X
     obtain ⟨rfl,rfl⟩:acc=l/\p.aL [41]=q:=by simpa using h
     subst bx;refine zci ?_;refine jF ?_;refine I ?_;refine V [0] (cJ p [41] hp aC) ?_;refine GW.wk (Wk.lr (t:=4) rfl rfl rfl hn) ?_;exact al
theorem Qk {f:Nat} (C:GY f) (d:Nat) (p:RS) (t:T) (q:RS) (hp:p.ok) (hd:d+(f+1)<=4611686018427387904) (h:mE (f+1) (.operand d) p=some (t,q)) :
  GF prog 308 [.loc 0 0,.v (ii (d:Nat))] [bP p] (.agg (cT t)) [bP q]:=by
 rw [mE] at h;have mO:=(ik hp d).ok hp;have yC:=wF p d hp;generalize p.deep d=p1 at *
 try simp only at h
 obtain ⟨FJ,c8⟩:=id mO
 by_cases hc:p1.code=0
 ·rw [ae hc] at h
  have dw:(p1.code != 0)=false:=by simpa using hc
  cases ht:p1.l[p1.i]? with
  | none =>
   rw [ht] at h;cases h;have kF:p1.l.length<=p1.i:=oH ht
   have abl:decide (((p1.l.map cZ).length:Int)<=(p1.i:Int))=true:=by simp;omega
   exact zbr
  | some tk =>
   rw [ht] at h;simp only at h;have au:p1.i < p1.l.length:=(bu ht).1
   have abl:decide (((p1.l.map cZ).length:Int)<=(p1.i:Int))=false:=by simp;omega
   have hr:=lN ht;have dU:=(cE au).ok mO;refine ai func308 ntmps308 ?_;refine V [0] yC ?_;refine aM (ay 0 17 .nil) ?_;refine bq ?_;refine zcL ?_
   by_cases k1:tk.kind=1
   ·rw [ae k1] at h;cases h
    have k1':(tk.kind==1)=true:=by simpa using k1
    refine I ?_;refine tD ?_;exact zaT
   ·rw [ab k1] at h
    have k1':(tk.kind==1)=false:=by simpa using k1
    by_cases k2:tk.kind=2
    ·rw [ae k2] at h
     have k2':(tk.kind==2)=true:=by simpa using k2
     refine I ?_;refine V [0] (pY p1 mO) ?_;refine V [0] (C.named tk.at_ p1.name.1 d p1.name.2 t q ((eO mO).ok mO) G h) ?_;exact fx
    ·rw [ab k2] at h
     have k2':(tk.kind==2)=false:=by simpa using k2
     by_cases s3:tk.s=[45]\/tk.s=[33]\/tk.s=[126]
     ·rw [ae s3] at h
      cases he:mE f (.operand (d+1)) p1.next with
      | none=>exact zaX
      | some r =>
       obtain ⟨a,p2⟩:=r;rw [he] at h;cases h
       have s3':(tk.s==[45])=true\/((tk.s==[45])=false/\(tk.s==[33])=true)\/((tk.s==[45])=false/\(tk.s==[33])=false/\(tk.s==[126])=true):=by
        rcases s3 with s3 | s3 | s3
        ·exact .inl (by simp [s3])
        ·exact .inr (.inl (by simp [s3]))
        ·exact .inr (.inr (by simp [s3]))
       refine I ?_
       rcases s3' with e1 | ⟨e1,e2⟩ | ⟨e1,e2,e3⟩
       all_goals
        refine I ?_;refine aM (ay 0 7 (.a 7 (.a 8 (.a 9 (.a 10 .nil))))) ?_;refine ak ?_;refine aB [0] (C.operand (d+1) p1.next a q dU G he) ?_;refine zau ?_;refine np [] (iH 5 tk.at_ tk.s [a] _ qs) ?_;refine I4 ?_;refine ak ?_;exact ry
     ·rw [ab s3] at h
      have e1:(tk.s==[45])=false:=by simp at s3;simpa using s3.1
      have e2:(tk.s==[33])=false:=by simp at s3;simpa using s3.2.1
      have e3:(tk.s==[126])=false:=by simp at s3;simpa using s3.2.2
      by_cases s4:tk.s=[40]
      ·rw [ae s4] at h
       have s4':(tk.s==[40])=true:=by simp [s4]
       cases he:mE f (.expr (d+1)) p1.next with
       | none=>exact zaX
       | some r =>
        obtain ⟨a,p2⟩:=r;rw [he] at h;cases h;have eB:=((tJ f).1 _ _ _ _ dU he).ok dU;refine I ?_;refine V [0] (C.expr (d+1) p1.next t p2 dU G he) ?_;refine V [0] (cJ p2 [41] eB aC) ?_;exact fx
      ·rw [ab s4] at h
       have s4':(tk.s==[40])=false:=by simpa using s4
       cases h;refine I ?_;refine V [0] (kL p1 7 tk.at_) ?_;refine tD ?_;exact zaT
 ·rw [ab hc] at h
  have dw:(p1.code != 0)=true:=by simpa using hc
  cases h;exact zbr
theorem rds (f:Nat):GY f:=by
  induction f using Nat.strongRecOn with
  | _ f ih =>
   cases f with
   | zero=>exact ⟨fun d p t q _ _ h=>by simp [mE] at h,fun k d p t q _ _ _ h=>by simp [mE] at h,fun d p t q _ _ h=>by simp [mE] at h,fun a s d p t q _ _ h=>by simp [mE] at h,fun d p l q _ _ h=>by simp [mL] at h⟩
   | succ f =>
    have C:=ih f (Nat.lt_succ_self f)
    have Cs:∀ f',f'<=f->GY f':=fun f' h=>ih f' (Nat.lt_succ_of_le h)
    exact ⟨fun d p t q hp hd h=>WU C d p t q hp hd h,fun k d p t q hp hk hd h=>VF Cs k d p t q hp hk hd h,fun d p t q hp hd h=>Qk C d p t q hp hd h,fun a s d p t q hp hd h=>VL C a s d p t q hp hd h,fun d p l q hp hd h=>Yl Cs d p l q hp hd h⟩
open Go.Xp (ju)
structure NU (f:Nat):Prop where
 block:∀ d p t q,p.ok->d+f<=1099511627776->mS f (.block d) p=some (t,q)->GF prog 196 [.loc 0 0,.v (ii (d:Nat))] [bP p] (.agg (cT t)) [bP q]
 stmt:∀ d p t q,p.ok->d+f<=1099511627776->mS f (.stmt d) p=some (t,q)->GF prog 254 [.loc 0 0,.v (ii (d:Nat))] [bP p] (.agg (cT t)) [bP q]
 cond:∀ a d p t q,p.ok->p.i < p.l.length->d+f<=1099511627776->mS f (.cond a d) p=some (t,q)->GF prog 290 [.loc 0 0,.v (ii a),.v (ii (d:Nat))] [bP p] (.agg (cT t)) [bP q]
theorem Aq (d:Nat) (p:RS) (t:T) (q:RS) (hp:p.ok) (hd:d<=1099511627777) (h:mX d p=some (t,q)):GF prog 289 [.loc 0 0,.v (ii (d:Nat))] [bP p] (.agg (cT t)) [bP q] :=
 (rds (fe p)).expr d p t q hp (by have:=hp.2;unfold fe;omega) h
theorem MO (k a:Int) (s:ah):GF prog 253 [.v (ii k),.v (ii a),.v (sv s),.v (.slice none 0 0)] [] (.agg [.v (ii k),.v (ii a),.v (ii 0),.v (sv s),ints [],.v (.slice none 0 0)]) []:=by
 refine ai func253 ntmps253 ?_;refine tD ?_;exact zaT
theorem U2 {f:Nat} (C:∀ f',f'<=f->NU f') (d:Nat) (p:RS) (t:T) (q:RS) (hp:p.ok) (hd:d+(f+1)<=1099511627776) (h:mS (f+1) (.block d) p=some (t,q)) :
  GF prog 196 [.loc 0 0,.v (ii (d:Nat))] [bP p] (.agg (cT t)) [bP q]:=by
 rw [mS] at h;have mO:=(ik hp d).ok hp;have yC:=wF p d hp;generalize p.deep d=p1 at *
 try simp only at h
 have Ah:=(bG mO (s:=[123]) aC).ok mO
 cases he:mB f (d+1) [] (p1.aL [123]) with
 | none=>exact zaX
 | some r =>
  obtain ⟨l,q1⟩:=r;rw [he] at h;cases h;generalize c8:p1.place=pl;refine ai func196 ntmps196 ?_;refine V [0] yC ?_;refine V [0] (ky p1 mO) ?_;refine V [] (MO 14 p1.place []) ?_;refine V [0] (cJ p1 [123] mO aC) ?_;rw [c8];refine GW.wk (Wk.M6 (i:=2) (o:=5) 86 6 rfl rfl) ?_;refine GW.loop (fun x:Nat × List T × RS=>x.1) (fun x fr Γ=>∃ n rows,fr=[.loc 0 0,.v (ii (d:Nat)),U,U,.loc 1 0,.loc 2 0,U,U,U,U,U,U,U,U,U,U,U,U,U,U,U,U,U,U,U,U,U,U,U,U,U,U,U,U,U,U]/\Γ=[bP x.2.2,.box 86 zT,.box 86 [.v (ii 14),.v (ii pl),.v (ii 0),.v (sv []),ints [],.vec 3 n],.vec 86 6 0 rows]/\rows.length=n/\rows=bd x.2.1/\n+x.1<=f/\x.2.2.ok/\mB x.1 (d+1) x.2.1 x.2.2=some (l,q1)) (f,[],p1.aL [123]) ?_ ?_
  ·exact ⟨_,_,Wk.aJ ar,0,[],rfl,rfl,rfl,rfl,by simp,Ah,he⟩
  ·rintro ⟨g,acc,p⟩ _ _ ⟨n,rows,rfl,rfl,hn,bx,BK,hp,h⟩;simp only at bx BK hp h
   cases g with
   | zero=>simp [mB] at h
   | succ g =>
   rw [mB] at h
   by_cases hc:p.code=0
   ·have dw:(p.code==0)=true:=by simpa using hc
    by_cases hs:p.sign 0=[125]
    ·rw [ab (fun hh=>hh.2 hs)] at h
     obtain ⟨rfl,rfl⟩:acc=l/\p=q1:=by simpa using h
     have od:(!(p.sign 0==[125]))=false:=by simp [hs]
     subst bx;refine zci ?_;refine jF ?_;refine I ?_;exact zcE
    ·rw [ae ⟨hc,hs⟩] at h
     have od:(!(p.sign 0==[125]))=true:=by simpa using hs
     cases hb:mS g (.stmt (d+1)) p with
     | none=>exact za0
     | some r =>
      obtain ⟨a,p2⟩:=r;rw [hb] at h;simp only at h;have eB:=((rf g).1 _ _ _ _ hp (fun a d' h=>by cases h) hb).ok hp;refine zci ?_;refine aM (ay 0 5 (.a 5 (.a 6 (.a 7 (.q 8 (.a 9 .nil)))))) ?_;refine ak ?_;refine aB [0] ((C g G).stmt (d+1) p a p2 hp G hb) ?_;refine zau ?_;refine EW ?_;refine bq ?_;exact ⟨(g,acc++[a],p2),⟨_,_,Wk.aJ ar,_,_,rfl,rfl,by simp [hn],by rw [zJ,bx];rfl,by show n+1+g<=f;omega,eB,h⟩,by simp⟩
   ·have dw:(p.code==0)=false:=by simpa using hc
    rw [ab (fun hh=>hc hh.1)] at h
    obtain ⟨rfl,rfl⟩:acc=l/\p=q1:=by simpa using h
    subst bx;refine za1 ?_;exact zcE
theorem WN {f:Nat} (C:NU f) (a:Int) (d:Nat) (p:RS) (t:T) (q:RS) (hp:p.ok) (au:p.i < p.l.length) (hd:d+(f+1)<=1099511627776) (h:mS (f+1) (.cond a d) p=some (t,q)) :
  GF prog 290 [.loc 0 0,.v (ii a),.v (ii (d:Nat))] [bP p] (.agg (cT t)) [bP q]:=by
 rw [mS] at h
 try simp only at h
 have dU:=(cE au).ok hp;have c8:=hp.2;have Ah:=(bG dU (s:=[40]) aC).ok dU
 cases he:mX (d+1) (p.next.aL [40]) with
 | none=>exact zaX
 | some r =>
 obtain ⟨e,p1⟩:=r;rw [he] at h;simp only at h;have lW:=(fO Ah he).ok Ah;have HE:=(bG lW (s:=[41]) aC).ok lW
 cases hb:mS f (.block (d+1)) (p1.aL [41]) with
 | none=>exact za0
 | some r =>
 obtain ⟨b,p2⟩:=r;rw [hb] at h;simp only at h;have eB:=((rf f).1 _ _ _ _ HE (fun a d' h=>by cases h) hb).ok HE;have XS:=eB.2
 have key:∀ k:Int,(if k=9/\p2.sign 0=ju then match mS f (.block (d+1)) p2.next with
     | none=>none
     | some (b2,q)=>some (one k a [] [e,b,b2],q)
    else some (one k a [] [e,b],p2))=some (t,q)->p.ck=k->(k=9\/k=10)->((p.sign 0==[105,102])=true/\k=9)\/((p.sign 0==[105,102])=false/\k=10):=by
  intro k _ hk _;unfold RS.ck at hk;split at hk
  ·rename_i hs;exact .inl ⟨by rw [hs];rfl,hk.symm⟩
  ·rename_i hs;refine .inr ⟨?_,hk.symm⟩
   cases hq:(p.sign 0==[105,102]) with
   | false=>rfl
   | true=>exact absurd (eq_of_beq hq) hs
 have sE:p.ck=9\/p.ck=10:=by unfold RS.ck;split <;> simp
 have key:=key p.ck h rfl sE;generalize p.ck=k at h key;clear sE
 rcases key with ⟨hs,rfl⟩ | ⟨hs,rfl⟩
 ·by_cases fB:p2.sign 0=ju
  ·rw [ae ⟨rfl,fB⟩] at h
   have abj:(p2.sign 0==[101,108,115,101])=true:=by rw [fB];rfl
   have kH:=(dk fB aC).1;have abC:=(dC fB aC).ok eB
   cases ej:mS f (.block (d+1)) p2.next with
   | none=>rw [ej] at h;cases h
   | some r =>
   obtain ⟨b2,p3⟩:=r;rw [ej] at h;cases h;refine ai func290 ntmps290 ?_;refine zat ?_;refine aB [0] (C.block (d+1) _ b p2 HE G hb) ?_;refine EX ?_;refine bq ?_;refine V [0] (c9 p2 0 eB aC) ?_;refine kj [0] (C.block (d+1) _ b2 q abC G ej) ?_;refine zcG ?_;refine zej ?_;refine V [] (iH 9 a [] [e,b,b2] _ qs) ?_;exact fx
  ·rw [ab (fun hh=>fB hh.2)] at h
   have abj:(p2.sign 0==[101,108,115,101])=false:=by
    cases hq:(p2.sign 0==[101,108,115,101]) with
    | false=>rfl
    | true=>exact absurd (eq_of_beq hq) fB
   cases h;refine ai func290 ntmps290 ?_;refine zat ?_;refine aB [0] (C.block (d+1) _ b q HE G hb) ?_;refine EX ?_;refine bq ?_;refine V [0] (c9 q 0 eB aC) ?_;refine zej ?_;refine V [] (iH 9 a [] [e,b] _ qs) ?_;exact fx
 ·rw [ab (fun hh=>by cases hh.1)] at h;cases h;refine ai func290 ntmps290 ?_;refine zat ?_;refine aB [0] (C.block (d+1) _ b q HE G hb) ?_;refine EX ?_;refine bq ?_;refine zej ?_;refine V [] (iH 10 a [] [e,b] _ qs) ?_;exact fx
open Go.Xp (nB gE ig gU)
theorem xn {s t:ah} (h:¬ s=t):(s==t)=false:=by
 cases hq:(s==t) with
 | false=>rfl
 | true=>exact absurd (eq_of_beq hq) h
theorem YT {f:Nat} (C:NU f) (d:Nat) (p:RS) (t:T) (q:RS) (hp:p.ok) (hd:d+(f+1)<=1099511627776) (h:mS (f+1) (.stmt d) p=some (t,q)) :
  GF prog 254 [.loc 0 0,.v (ii (d:Nat))] [bP p] (.agg (cT t)) [bP q]:=by
 rw [mS] at h;have mO:=(ik hp d).ok hp;have yC:=wF p d hp;generalize p.deep d=p1 at *
 try simp only at h
 obtain ⟨FJ,c8⟩:=id mO;generalize zn:p1.place=at_ at h;refine ai func254 ntmps254 ?_;refine V [0] yC ?_;refine V [0] (ky p1 mO) ?_;refine kj [0] (c9 p1 0 mO aC) ?_;rw [zn]
 by_cases D:p1.sign 0=nB
 ·rw [ae D] at h
  have e1:(p1.sign 0==[118,97,114])=true:=by rw [D];rfl
  have au:=(dk D aC).1;have hn:=(dC D aC).ok mO;have dq:=(eO hn).ok hn;have fD:=(bG dq (s:=[61]) aC).ok dq
  cases he:mX (d+1) (p1.next.name.2.aL [61]) with
  | none=>exact zaX
  | some r =>
  obtain ⟨e,p2⟩:=r;rw [he] at h;cases h;have eB:=(fO fD he).ok fD;refine I ?_;refine V [0] (pY p1.next hn) ?_;refine zdh ?_;refine V [] (iH 13 at_ p1.next.name.1 [e] _ qs) ?_;exact fx
 rw [ab D] at h;have e1:(p1.sign 0==[118,97,114])=false:=xn D
 by_cases X:p1.sign 0=gE\/p1.sign 0=ig
 ·rw [ae X] at h
  have e2:(p1.sign 0==[105,102])=true\/((p1.sign 0==[105,102])=false/\(p1.sign 0==[119,104,105,108,101])=true):=by
   rcases X with X | X
   ·exact .inl (by rw [X];rfl)
   ·exact .inr ⟨by rw [X];rfl,by rw [X];rfl⟩
  have au:p1.i < p1.l.length:=by
   rcases X with X | X
   ·exact (dk X aC).1
   ·exact (dk X aC).1
  rcases e2 with e2 | ⟨e2,e3⟩
  all_goals
   refine I ?_;refine V [0] (C.cond at_ d p1 t q mO au G h) ?_;exact fx
 rw [ab X] at h
 have e2:(p1.sign 0==[105,102])=false:=xn fun hh=>X (.inl hh)
 have e3:(p1.sign 0==[119,104,105,108,101])=false:=xn fun hh=>X (.inr hh)
 by_cases h4:p1.sign 0=gU
 ·rw [ae h4] at h
  have e4:(p1.sign 0==[114,101,116,117,114,110])=true:=by rw [h4];rfl
  have au:=(dk h4 aC).1;have hn:=(dC h4 aC).ok mO
  cases he:mX (d+1) p1.next with
  | none=>exact zaX
  | some r =>
  obtain ⟨e,p2⟩:=r;rw [he] at h;cases h;have eB:=(fO hn he).ok hn;refine I ?_;refine V [0] (Aq (d+1) _ e p2 hn G he) ?_;refine V [0] (cJ p2 [59] eB aC) ?_;refine zal ?_;refine V [] (iH 11 at_ [] [e] _ qs) ?_;exact fx
 rw [ab h4] at h;have e4:(p1.sign 0==[114,101,116,117,114,110])=false:=xn h4
 by_cases h5:p1.code=0/\p1.pW=true/\p1.sign 1=[61]
 ·rw [ae h5] at h;obtain ⟨hc,HD,lX⟩:=h5
  have dw:(p1.code==0)=true:=by simpa using hc
  have acA:(p1.sign 1==[61])=true:=by rw [lX];rfl
  unfold RS.pW at HD
  cases ht:p1.l[p1.i]? with
  | none=>rw [ht] at HD;cases HD
  | some tk =>
  rw [ht] at HD
  have hk:(tk.kind==2)=true:=by simpa using HD
  have au:=(bu ht).1
  have R0:decide ((p1.i:Int) < ((p1.l.map cZ).length:Int))=true:=by simpa using au
  have hr:=lN ht;have dq:=(eO mO).ok mO;have fD:=(bG dq (s:=[61]) aC).ok dq
  cases he:mX (d+1) (p1.name.2.aL [61]) with
  | none=>exact zaX
  | some r =>
  obtain ⟨e,p2⟩:=r;rw [he] at h;cases h;have eB:=(fO fD he).ok fD;refine I ?_;refine ze5 ?_;refine I ?_;refine V [0] (pY p1 mO) ?_;refine zdh ?_;refine V [] (iH 7 at_ p1.name.1 [e] _ qs) ?_;exact fx
 rw [ab h5] at h
 cases he:mX (d+1) p1 with
 | none=>exact zaX
 | some r =>
 obtain ⟨e,p2⟩:=r;rw [he] at h;simp only at h;have eB:=(fO mO he).ok mO;have XS:=eB.2
 have HP:(p1.code==0)=false\/((p1.code==0)=true/\p1.l.length<=p1.i)\/((p1.code==0)=true/\∃ tk,p1.l[p1.i]?=some tk/\((tk.kind==2)=false\/((tk.kind==2)=true/\(p1.sign 1==[61])=false))):=by
  by_cases hc:p1.code=0
  ·refine .inr ?_
   have dw:(p1.code==0)=true:=by simpa using hc
   cases ht:p1.l[p1.i]? with
   | none=>exact .inl ⟨dw,oH ht⟩
   | some tk =>
    refine .inr ⟨dw,tk,rfl,?_⟩
    by_cases hk:tk.kind=2
    ·refine .inr ⟨by simpa using hk,xn fun h61=>h5 ⟨hc,?_,h61⟩⟩;unfold RS.pW;rw [ht];simpa using hk
    ·exact .inl zfO
  ·exact .inl zfN
 refine I ?_;refine GW.join (fun fr Γ=>fr=[.loc 0 0,.v (ii (d:Nat)),U,U,.loc 1 0,.v (ii at_),U,U,U,U,U,U,U,U,U,U,U,U,U,U,U,U,U,U,U,U,U,U,U,U,U,U,U,U,U,U,U,U,U,U,U,U,U,U,U,U,U,U,U,U,U,U,U,U,U,U,U,U,U,U,U,U,U,U,U,U,U,U,U,U,U,U,U,U,U,U,U,U,U,U,U,U,U,U,U,U,U,U,U,U,U,U,U,U,U,U,U,U,U,U,U,U,U,U,U,.v (.bool false),U,U,U,U,U,U,U,U,U,U,U,U,U,U,U,U,U,U,U,U,U,U,U,U,U,U,U,U,U,U,U,U,U,U,U,U,U,U,U,U,U,U,U,U,U,U,U,U,U,U,U,U,U,U,U,U,U,U,U,U,U,U,U,U,U]/\Γ=[bP p1,.box 86 zT]) ?_ ?_
 ·rcases HP with dw | ⟨dw,kF⟩ | ⟨dw,tk,ht,hk | ⟨hk,lX⟩⟩
  ·exact zbg
  ·have R0:decide ((p1.i:Int) < ((p1.l.map cZ).length:Int))=false:=by simpa using kF
   exact zbg
  ·have au:=(bu ht).1
   have R0:decide ((p1.i:Int) < ((p1.l.map cZ).length:Int))=true:=by simpa using au
   have hr:=lN ht;exact zbg
  ·have au:=(bu ht).1
   have R0:decide ((p1.i:Int) < ((p1.l.map cZ).length:Int))=true:=by simpa using au
   have hr:=lN ht;refine ze5 ?_;exact bh ⟨_,_,Wk.aJ (by repeat (first | exact vc.nil | refine vc.U ?_ | refine vc.eq rfl ?_ | refine vc.eq (by rw [lX]) ?_)),rfl,rfl⟩
 ·rintro _ _ ⟨rfl,rfl⟩;refine I ?_;refine V [0] (Aq (d+1) _ e p2 mO G he) ?_
  by_cases k3:e.n.kind=3
  ·have k3':(e.n.kind==3)=true:=by simpa using k3
   by_cases ka:e.n.at_=at_
   ·have ka':(e.n.at_==at_)=true:=by simpa using ka
    by_cases ks:p2.sign 0=[61]
    ·have ks':(p2.sign 0==[61])=true:=by rw [ks];rfl
     rw [ae ⟨k3,ka,ks⟩] at h;have au:=(dk ks aC).1;have hn:=(dC ks aC).ok eB
     cases hk:e.kids with
     | nil=>rw [hk] at h;cases h
     | cons a rest =>
     cases hv:mX (d+1) p2.next with
     | none=>rw [hk,hv] at h;cases h
     | some r =>
     obtain ⟨v,p3⟩:=r;rw [hk,hv] at h;cases h;have Ae:=(fO hn hv).ok hn
     have hr:(bd (a::rest))[0]?=some (cT a):=by simp [bd,xu]
     refine I ?_;refine V [0] (c9 p2 0 eB aC) ?_;refine V [0] (Aq (d+1) _ v p3 hn G hv) ?_;refine V [0] (cJ p3 [59] Ae aC) ?_;refine aM (ay 0 9 (.a 9 (.a 10 (.a 11 .nil)))) ?_;refine zdE ?_;refine np [] (iH 8 at_ e.n.s [a,v] _ qs) ?_;refine I4 ?_;refine ak ?_;exact ry
    ·have ks':(p2.sign 0==[61])=false:=xn ks;rw [ab (fun hh=>ks hh.2.2)] at h;cases h;refine I ?_;refine V [0] (c9 p2 0 eB aC) ?_;exact zbm
   ·have ka':(e.n.at_==at_)=false:=by simpa using ka
    rw [ab (fun hh=>ka hh.2.1)] at h;cases h;refine I ?_;exact zbm
  ·have k3':(e.n.kind==3)=false:=by simpa using k3
   rw [ab (fun hh=>k3 hh.1)] at h;cases h;refine I ?_;exact zbm
theorem sds (f:Nat):NU f:=by
 induction f using Nat.strongRecOn with
 | _ f ih =>
  cases f with
  | zero=>exact ⟨fun d p t q _ _ h=>by simp [mS] at h,fun d p t q _ _ h=>by simp [mS] at h,fun a d p t q _ _ _ h=>by simp [mS] at h⟩
  | succ f =>
   have C:=ih f (Nat.lt_succ_self f)
   have Cs:∀ f',f'<=f->NU f':=fun f' h=>ih f' (Nat.lt_succ_of_le h)
   exact ⟨fun d p t q hp hd h=>U2 Cs d p t q hp hd h,fun d p t q hp hd h=>YT C d p t q hp hd h,fun a d p t q hp hl hd h=>WN C a d p t q hp hl hd h⟩
open Go.Xp (Nd Ar)
def aW (n:Nd):List GV:=[.v (ii n.kind),.v (ii n.at_),.v (ii n.n),.v (sv n.s),ints n.kids]
def ax (f:Go.Sp.Fn):List GV:=[.v (sv f.name),strs f.params,.v (ii f.body)]
def bb (a:Ar):List GV:=[.v (sv a.name),.v (ii a.size)]
abbrev av (p:Src):List GV:=[strs p.globals,.sl 2 (p.arrays.map bb),.sl 3 (p.fns.map ax),.sl 5 (p.nodes.map aW)]
theorem Jw (k:Int):GF prog 82 [.v (ii k)] [] (.v (.bool (oX k))) []:=by
 unfold oX;refine ei func82 ntmps82 ?_
 cases h:decide ((1:Int)<=k)
 all_goals
  exact aw
theorem Jx (k:Int):GF prog 288 [.v (ii k)] [] (.v (.bool (jt k))) []:=by
 unfold jt;refine ei func288 ntmps288 ?_
 cases h:decide ((7:Int)<=k)
 all_goals
  exact aw
theorem vH (s:ah):GF prog 287 [.v (sv s)] [] (.v (.bool (ia s))) []:=by
 refine ai func287 ntmps287 ?_;refine V [] kx ?_;refine GW.range (levels.map fun l=>[strs l]).length (fun k fr Γ=>fr=[.v (sv s),U,U,U,U,.sl 1 (levels.map fun l=>[strs l]),.v (ii ((levels.map fun l=>[strs l]).length:Int)),.v (ii (k:Nat)),U,U,U,U,U,U,U]/\Γ=[]/\((levels.take k).any fun l=>l.contains s)=false) ?_ aC ?_ ?_ ?_
 ·exact jQ
 ·exact gO
 ·rintro k _ _ hk ⟨rfl,rfl,hf⟩
  have hk:k < levels.length:=by simpa using hk
  have hx:levels[k]?=some levels[k]:=by simp [hk]
  have hr:(levels.map fun l=>[strs l])[k]?=some [strs levels[k]]:=by simp [hk]
  have zr:levels[k].length<=1099511627776:=by
   have:∀ l∈levels,l.length<=1099511627776:=by decide
   exact this _ (getElem_mem hk)
  generalize levels[k]=x at *;have hh:=ll x s zr
  cases hb:x.contains s with
  | true =>
   rw [hb] at hh
   have ha:ia s=true:=by
    unfold ia;rw [pG];exact ⟨x,br hx,hb⟩
   refine I ?_;refine V [] hh ?_;refine b6 ?_;rw [ha];exact zak
  | false =>
   rw [hb] at hh;refine I ?_;refine V [] hh ?_;exact ⟨rfl,rfl,_,_,Wk.aJ ar,rfl,rfl,by rw [dh,hx,List.any_append,hf];simp only [Option.toList,List.any_cons,List.any_nil,hb];rfl⟩
 ·rintro _ _ ⟨rfl,rfl,hf⟩
  have hf:ia s=false:=by
   rw [mn zfu] at hf;exact hf
  refine zb5 ?_;rw [hf];exact zak
theorem dB {l:List T} {i:Nat} {t:T} (h:l[i]?=some t):(bd l)[i]?=some (cT t):=by
 induction l generalizing i with
 | nil=>simp at h
 | cons a l ih =>
  cases i with
  | zero=>cases h;simp [bd,xu]
  | succ i=>simpa [bd] using ih zfx
theorem fV (t:T) (m:Nat) (hl:t.kids.length<=1099511627776):GF prog 286 [.agg (cT t),.v (ii (m:Nat))] [] (.v (.bool (bJ m 0 t.kids))) []:=by
 refine ai func286 ntmps286 ?_;refine GW.range (bd t.kids).length (fun k fr Γ=>fr=[U,.v (ii (m:Nat)),U,U,U,U,U,U,.sl 6 (bd t.kids),.v (ii ((bd t.kids).length:Int)),.v (ii (k:Nat)),U,U,U,U,U,U,U,U,U,U,U,U,U,U,U,U,U,U,U,U,U,U,U,U,U,U]/\Γ=[]/\bJ m k (t.kids.drop k)=bJ m 0 t.kids) ?_ (by rw [be];exact hl) ?_ ?_ ?_
 ·exact ⟨_,_,(Wk.cut (n:=0) (aH _) rfl).trans (Wk.aJ ar),rfl,rfl,rfl⟩
 ·exact gO
 ·rintro k _ _ hk ⟨rfl,rfl,hf⟩
  have hk:k < t.kids.length:=by rw [be] at hk;exact hk
  have hx:t.kids[k]?=some t.kids[k]:=by simp [hk]
  have hr:=dB hx;rw [oG hk,bJ] at hf;generalize t.kids[k]=x at *;have he:=Jw x.n.kind
  by_cases hm:k < m
  ·have T9:decide ((k:Int) < (m:Int))=true:=by simpa using hm
   have sd:decide ((m:Int)<=(k:Int))=false:=by simpa using hm
   rw [ae hm] at hf
   cases hb:oX x.n.kind with
   | true =>
    rw [hb] at he hf;refine zbG ?_;exact zc0
   | false =>
    rw [hb] at he hf;refine zbG ?_;refine b6 ?_;rw [<-hf];exact zak
  ·have T9:decide ((k:Int) < (m:Int))=false:=by simp;omega
   have sd:decide ((m:Int)<=(k:Int))=true:=by simp;omega
   rw [ab hm] at hf
   cases hb:(x.n.kind==14) with
   | true =>
    rw [hb] at hf
    have bH:(x.n.kind != 14)=false:=by simp only [bne,hb];rfl
    refine I ?_;exact zc0
   | false =>
    rw [hb] at hf
    have bH:(x.n.kind != 14)=true:=by simp only [bne,hb];rfl
    refine zb5 ?_;rw [<-hf];exact zak
 ·rintro _ _ ⟨rfl,rfl,hf⟩;rw [be,List.drop_length,bJ] at hf;refine zb5 ?_;rw [<-hf];exact zak
theorem ma {l:List Nd} {i:Nat} {n:Nd} (h:l[i]?=some n):(l.map aW)[i]?=some (aW n):=by rw [bp,h];rfl
theorem qm {l:List Int} {i:Nat} {n:Int} (h:l[i]?=some n):(l.map fun i=>[GV.v (ii i)])[i]?=some [.v (ii n)]:=by rw [bp,h];rfl
theorem GG (p:Src) (hk:∀ n∈p.nodes,n.kids.length<=1000000000000):∀ (f a:Nat) (t:T),sub p.nodes f a=some t->GF prog 84 [.agg (av p),.v (ii (a:Nat))] [] (.agg (cT t)) []:=by
 intro f
 induction f using Nat.strongRecOn with
 | _ f ih =>
 intro a t h
 cases f with
 | zero=>simp [sub] at h
 | succ f =>
 rw [sub] at h
 cases hn:p.nodes[a]? with
 | none=>exact zdL
 | some n =>
 rw [hn] at h;simp only at h
 cases hs:qG p.nodes f n.kids [] with
 | none=>rw [hs] at h;cases h
 | some l =>
 rw [hs] at h;cases h;have hr:=ma hn;have fC:=hk n (br hn);refine ai func84 ntmps84 ?_;refine GW.wk (Wk.M6 (i:=2) (o:=5) 86 6 rfl rfl) ?_
 refine GW.range (n.kids.map fun i=>[GV.v (ii i)]).length (fun k fr Γ=>∃ rows acc g,fr=[U,.v (ii (a:Nat)),.loc 0 0,U,.loc 1 0,.loc 2 0,U,U,U,U,U,U,U,U,U,U,U,U,U,ints n.kids,.v (ii ((n.kids.map fun i=>[GV.v (ii i)]).length:Int)),.v (ii (k:Nat)),U,U,U,U,U,U,U,U,U,U,U,U,U] /\
   Γ=[.box 28 (av p),.box 86 zT,.box 86 [.v (ii n.kind),.v (ii n.at_),.v (ii n.n),.v (sv n.s),ints n.kids,.vec 3 k],.vec 86 6 0 rows] /\
   rows.length=k/\rows=bd acc/\g<=f/\qG p.nodes g (n.kids.drop k) acc=some l) ?_ zfS ?_ ?_ ?_
 ·exact ⟨_,_,Wk.aJ ar,[],[],f,rfl,rfl,rfl,rfl,aH _,hs⟩
 ·rintro k _ _ ⟨_,_,_,rfl,rfl,_⟩;exact ea
 ·rintro k _ _ au ⟨rows,acc,g,rfl,rfl,xI,bx,hg,h⟩
  have au:k < n.kids.length:=by simpa using au
  have hx:n.kids[k]?=some n.kids[k]:=by simp [au]
  rw [oG au] at h;generalize n.kids[k]=x at *
  cases g with
  | zero=>simp [qG] at h
  | succ g =>
  rw [qG] at h
  by_cases oV:x < 0
  ·rw [ae oV] at h;cases h
  rw [ab oV] at h
  cases cU:sub p.nodes g x.toNat with
  | none=>rw [cU] at h;cases h
  | some t =>
  rw [cU] at h;simp only at h;have A2:=ih g G x.toNat t cU;rw [Int.toNat_of_nonneg G] at A2;have vz:=qm hx;refine I ?_;refine aM (ay 0 4 (.a 4 (.a 5 (.a 6 (.q 7 (.a 8 .nil)))))) ?_;refine ak ?_;refine aB [] A2 ?_;refine zau ?_;refine EW ?_;refine bq ?_;exact ⟨rfl,rfl,_,_,Wk.aJ ar,_,acc++[t],g,rfl,rfl,by rw [aO,xI];rfl,by rw [zJ,bx];rfl,by omega,h⟩
 ·rintro _ _ ⟨rows,acc,g,rfl,rfl,xI,bx,hg,h⟩;rw [cj,List.drop_length] at h
  have lF:acc=l:=by cases g <;> (rw [qG] at h;cases h;rfl)
  subst lF;subst bx;refine bh (GW.wk (Wk.Be (i:=2) (o:=5) rfl rfl rfl rfl xI) ?_);exact ry
end Go.Xg
namespace Go.Xg
open Go.RowKit Go.Xw Go.Proofs Go.WideShapes Go.Deep
def flat (v:Value):Prop:=∀ a n c,v≠.slice a n c
def Rh (W:World) (v:Value) (xs:List Value):Prop:=∃ a c,v=.slice a xs.length c/\(xs=[]\/∃ b o,a=some ⟨b,o,none⟩/\xs.length<=c/\∀ i x,xs[i]?=some x->ja W.heap b (o+i)=some x/\flat x)
open Classical in
noncomputable def KW (W:World):Fz:=fun b o=>match ja W.heap b o with
 | none=>none
 | some v=>if ∃ a n c,v=.slice a n c then (if h:∃ xs,Rh W v xs then some (.sl 1 (h.choose.map fun x=>[.v x])) else none) else some (.v v)
theorem DV {W:World} {b o:Nat} {v:Value} (h:ja W.heap b o=some v) (hf:flat v):KW W b o=some (.v v):=by
 unfold KW;rw [h];simp only;rw [if_neg (by rintro ⟨a,n,c,e⟩;exact hf a n c e)]
theorem Qt {W:World} {v:Value} {xs:List Value} (hx:Rh W v xs) (β:Bt):Rel (KW W) β v (.sl 1 (xs.map fun x=>[GV.v x])):=by
 obtain ⟨a,c,rfl,h⟩:=hx
 rcases h with rfl | ⟨b,o,rfl,hc,r8⟩
 ·exact .sl0 a c 1
 ·have:=Rel.sl (K:=KW W) (β:=β) b o c 1 (xs.map fun x=>[GV.v x]) (fun i r hr=>by
   rw [List.getElem?_map] at hr
   cases hi:xs[i]? with
   | none=>rw [hi] at hr;cases hr
   | some x =>
    rw [hi] at hr;cases hr;obtain ⟨D,X⟩:=r8 i x hi;refine ⟨rfl,fun j g hg=>?_⟩
    cases j with
    | zero=>cases hg;rw [Nat.mul_one,Nat.add_zero];exact DV D X
    | succ j=>simp at hg) (by rw [List.length_map];exact hc)
  rw [List.length_map] at this;exact this
theorem Ze (W:World):nE (KW W) W:=fun b o g h=>by
 unfold KW at h
 cases hc:ja W.heap b o with
 | none=>rw [hc] at h;cases h
 | some v =>
  rw [hc] at h;simp only at h;split at h
  ·split at h
   ·rename_i hex;cases h;exact ⟨rfl,v,rfl,Qt hex.choose_spec _⟩
   ·cases h
  ·cases h;exact ⟨rfl,v,rfl,.v v⟩
theorem Ru {W:World} {a:Addr} {n:Nat} {v:Value} (h:W.cell? (a.add n)=some v):ja W.heap a.block (a.off+n)=some v:=by
 unfold Addr.add at h;split at h
 ·rename_i h0;subst h0;obtain ⟨b,o,s⟩:=a;have hs:=World.cell?_spot h;simp only at hs;subst hs;rw [gk] at h;exact h
 ·obtain ⟨b,o,s⟩:=a;simp only at h;rw [gk] at h;exact h
theorem Rn {W:World} {a:Addr} {v:Value} (h:W.cell? (a.add 0)=some v):a.spot=none:=by
 have:=World.cell?_spot h;unfold Addr.add at this;rw [if_pos rfl] at this;exact this
theorem BB {α:Type} {Q:Nat->α->Prop}:∀ {n:Nat},(∀ i,i < n->∃ x,Q i x)->∃ l:List α,l.length=n/\∀ i x,l[i]?=some x->Q i x
 | 0,_=>⟨[],rfl,fun i x h=>by simp at h⟩
 | n+1,h=>by
  obtain ⟨l,D,X⟩:=BB (n:=n) fun i hi=>h i G
  obtain ⟨x,hx⟩:=h n G;refine ⟨l++[x],by simp [D],fun i y hi=>?_⟩
  by_cases uC:i < n
  ·rw [List.getElem?_append_left G] at hi;exact X i y hi
  ·have au:=(List.getElem?_eq_some_iff.1 hi).1;rw [length_append,length_cons,length_nil] at au
   have:i=n:=by omega
   subst this;rw [List.getElem?_append_right G,D,Nat.sub_self] at hi
   cases hi;exact hx
theorem max_le {n:Nat} (h:n<=maxLen):n<=9223372036854775807:=by unfold maxLen at h;omega
section
variable {H:Type} {enc:TypeId × Value->H} {P:Program} {W:World}
end
section
variable {H:Type} {enc:TypeId × Value->H} {W:World}
end
end Go.Xg
namespace Go.Xg
open Go.RowKit Go.Xw Go.Proofs Go.Lib
theorem QG {P:Program} {W:World} {name:String} {k:IntKind} {zs:List Int} {g:Nat} {t e:TypeId} {n:Nat}
  (hg:P.globalNamed name=some g) (hty:(P.globals[g]?).map (·.type)=some t) (ht:P.underlying t=some (.array n e)) (he:P.underlying e=some (.int k)) (Pe:P.cellsOf e=1) (TU:P.cellsOf t=n)
  (h:VarReads P W name (tabData k zs)):TabIs P W name k zs:=by
 obtain ⟨g',t',cs,fuel,p,kU,HL,abI,hd⟩:=h;obtain rfl:=Option.some.inj (hg.symm.trans kU);obtain rfl:=Option.some.inj (hty.symm.trans HL);unfold TabIs;rw [abI,<-cells_of_tab ht he Pe TU hd]
theorem LN {P:Program} {W:World} {name:String} {k:IntKind} {zs:List Int} {g n:Nat} (hg:P.globalNamed name=some g) (hn:zs.length=n) (h:TabIs P W name k zs):vb W g n:=by
 unfold TabIs World.var? at h;rw [hg] at h;simp only [Option.bind_some] at h
 cases hb:W.heap[g]? with
 | none=>exact za0
 | some o =>
  rw [hb] at h
  cases o with
  | cells cs E z =>
   simp only [Option.some.injEq] at h;exact ⟨cs,E,z,hb,by rw [h];simpa using hn⟩
  | _=>cases h
theorem NR {P:Program} {W:World} {name:String} {k:IntKind} {zs:List Int} {g:Nat} (hg:P.globalNamed name=some g) (h:TabIs P W name k zs) {o:Nat} {z:Int} (ho:zs[o]?=some z):KW W g o=some (.v (.int k z)):=by
 have au:=(List.getElem?_eq_some_iff.1 ho).1;have hc:=h.cell hg o au;rw [List.getD_eq_getElem?_getD,ho,gk] at hc
 exact DV hc fun a n c e=>by cases e
theorem We {W:World} (hp:VarReads Tryz.prog W "internal/strconv.uint64pow10" (tabData .u64 xX)) (hs:VarReads Tryz.prog W "strings.asciiSpace" (tabData .u8 ya)) (hW:W.ShapedOpen Tryz.prog):lP (KW W) (fun _=>.no) W:=by
 have gp:Tryz.prog.globalNamed "internal/strconv.uint64pow10" = some 1:=by kernel_rfl
 have gs:Tryz.prog.globalNamed "strings.asciiSpace" = some 2:=by kernel_rfl
 have tp:=QG gp (t:=254) (by kernel_rfl) Tryz.underlying254 (k:=.u64) (by kernel_rfl) (by kernel_rfl) (by kernel_rfl) hp;have ts:=QG gs (t:=257) (by kernel_rfl) Tryz.underlying257 (k:=.u8) (by kernel_rfl) (by kernel_rfl) (by kernel_rfl) hs;obtain ⟨m,hm⟩:=cell_of_shapedOpen_int (g:=0) (zero:=#[.int .i64 0]) (t:=3) hW (of_decide_eq_true (by kernel_rfl)) (by kernel_rfl) rfl (by kernel_rfl) (by kernel_rfl) Tryz.underlying3;rw [gk] at hm;refine ⟨⟨m,fun b o g h=>?_⟩,LN gp aC tp,LN gs aC ts,fun i b h=>by cases h⟩;unfold zz at h;split at h
 ·rename_i hb;subst hb;split at h
  ·cases h;exact DV hm fun a n c e=>by cases e
  ·cases h
 ·split at h
  ·rename_i hb;subst hb
   cases ho:xX[o]? with
   | none=>rw [ho] at h;cases h
   | some z=>rw [ho] at h;cases h;exact NR gp tp ho
  ·split at h
   ·rename_i hb;subst hb
    cases ho:ya[o]? with
    | none=>rw [ho] at h;cases h
    | some z=>rw [ho] at h;cases h;exact NR gs ts ho
   ·cases h
theorem GF.calls {P:Program} {f:FuncId} {gs:List GV} {g:GV} (h:GF P f gs [] g []) {W:World} {vs:List Value} (hv:bs (KW W) (fun _=>.no) vs gs) (hT:lP (KW W) (fun _=>.no) W) :
  oJ P f vs W fun v w'=>Below W.heap.size W w'/\∃ K β,Rel K β v g:=by
 have hI:Inv ⟨W,gL,KW W,fun _=>.no,0⟩ (KW W) (fun _=>.no) [] W :=
  ⟨Ext.refl W,cW.refl _,dI.refl _,fun _ _=>rfl,Ze W,fun i x h=>by simp at h,fun _ _=>rfl,fun i j b h=>zfA,fun i b h=>zfA,fun b o g h=>.inl h,hT⟩
 refine (h ⟨W,gL,KW W,fun _=>.no,0⟩ (KW W) (fun _=>.no) W vs rfl hI hv).mono ?_;rintro v w' ⟨K',bR,x,aV,D,X,rfl,rfl⟩;exact ⟨D.ext.below,K',bR,X⟩
end Go.Xg
namespace Go.Xg
open Go.RowKit Go.Xw
theorem iv (n:Int):bits .and .i64 n 4294967295=n % 4294967296:=by
 have h:(BitVec.ofInt 64 4294967295).toNat=2 ^ 32 - 1:=by decide
 have key:(BitVec.ofInt 64 n &&& BitVec.ofInt 64 4294967295).toNat=(n % ((2 ^ 64:Nat):Int)).toNat % 2 ^ 32:=by
  rw [BitVec.toNat_and,BitVec.toNat_ofInt,h,Nat.and_two_pow_sub_one_eq_mod]
 show IntKind.i64.wrap ((BitVec.ofInt 64 n &&& BitVec.ofInt 64 4294967295).toNat:Nat)=n % 4294967296;rw [key,IntKind.wrap_i64];omega
section
variable {P:Program} {fr:List GV} {Γ:List Ob}
theorem YG.iv {x y:Operand} {t t':TypeId} {a:Int} (hx:bf fr x=.v (ii a)) (hy:bf fr y=.v (ii 4294967295)):YG P (.binOp .and t x y t') fr Γ (.v (ii (a % 4294967296))) :=
 YG.v2 hx hy fun l w h k d ty pos af=>by
  simp [execOp,eqGuard,h,k,binOp,intBits_and,Go.Xg.iv]
end
end Go.Xg
namespace Go.Xw
open Go.RowKit
class Fa (P:Program) (t:TypeId) (e:outParam TypeId):Prop where
 is:P.underlying t=some (.slice e)/\∃ i,P.info? e=some i/\i.zero=some (.int .u8 0)/\i.size=1/\i.bytes=1
def Tt (P:Program) (t e:TypeId):Bool :=
 (match P.underlying t with | some (.slice e')=>e'==e | _=>false)&&(match P.info? e with | some i=>(match i.zero with | some (.int .u8 0)=>true | _=>false)&&i.size==1&&i.bytes==1 | none=>false)
theorem Fa.mk' {P:Program} {t e:TypeId} (h:Tt P t e=true):Fa P t e:=by
 unfold Tt at h;rw [aI] at h;obtain ⟨D,X⟩:=h;refine ⟨?_,?_⟩
 ·split at D
  ·rename_i e' hu;rw [hu];simp at D;rw [D]
  ·cases D
 ·split at X
  ·rename_i i hi;simp only [aI,beq_iff_eq] at X;obtain ⟨⟨h4,h5⟩,h6⟩:=X;split at h4
   ·rename_i hz;exact ⟨i,hi,hz,h5,h6⟩
   ·cases h4
  ·cases X
section
variable {P:Program} {Q:nF} {l:List Value} {w:World} {ops:Array Oper} {rest:List Oper} {d:Option Tmp} {ty:TypeId} {pos:String} {af:Array Edge}
def mH (s:ah):List Value:=s.map fun c=>.int .u8 (c.toNat:Int)
theorem WL.D1 {s x:Operand} {t u e:Nat} [hT:Fa P t e] [hU:rS P u] {base n:Nat} {xs:List Value} {v:Value} {str:ah} (hs:ev l s=v) (gi:iL w base e 1 v n xs) (hx:ev l x=sv str)
  (zY:n+str.length<=140737488355328) (C5:base<=w.heap.size)
  (h:∀ v' w',iL w' base e 1 v' (n+str.length) (xs++mH str)->Ext (fun b=>v.ownBlock=some b) w w'->(∀ b,v'.ownBlock=some b->v.ownBlock=some b\/w.heap.size<=b)->(Ext gL w w'\/v'.ownBlock=v.ownBlock)->WL P ops Q rest (put l d v') w') :
  WL P ops Q (⟨d,.call ⟨.builtin .append,#[s,x],#[t,u]⟩,ty,pos,af,none⟩::rest) l w:=by
 obtain ⟨hu,i,hi,hz,dR,C6⟩:=hT.is;have gS:=hU.und
 have sJ:(⟨str.toArray⟩:ByteArray).size=str.length:=by simp [ByteArray.size]
 have iT:Lib.strCells ⟨str.toArray⟩=mH str:=by simp [Lib.strCells,mH]
 obtain ⟨v',w',hr,X,h3,h4⟩:=Lib.run_append_own_string (P:=P) w base t u ty e i hu gS hi hz dR C6 v n xs gi ⟨str.toArray⟩ (by rw [sJ];simp only [maxLen];omega) zfR C5;rw [sJ,iT] at X;rw [sJ] at h4;have j0:Ext (fun b=>v.ownBlock=some b) w w':=⟨h3.os,h3.tape,h3.output,h3.size,fun j hj hn=>h3.block j hj fun he=>hn he.symm⟩;have pn:(Builtin.append_ #[t,u] ty #[v,sv str]).run P w=.ok v' w':=hr;refine WL.val (v:=v') (w':=w') (by simp [execOp,resolve,invoke,builtin,hs,hx,pn]) (h v' w' X j0 ?_ ?_)
 ·intro b' bH
  rcases gi.2 with ⟨rfl,rfl⟩ | ⟨g,cap,cur,rfl,pR,hg,sG,zo,iT,Di⟩
  ·by_cases hm:str.length=0
   ·have:=h4.2 ⟨rfl,hm⟩;subst this;cases bH
   ·have et:=run_append_nil_string (P:=P) w t u ty e i (.int .u8 0) hu gS hi hz ⟨str.toArray⟩ zfw zfR (by rw [C6,sJ];omega);rw [hr] at et;cases et;exact zbb
  ·by_cases hroom:n+str.length<=cap
   ·have Xy:cur.size=cap:=by simpa using iT
    have et:=Lib.run_append_room_string (P:=P) w t u ty e i hu gS hi dR g n cap cur hg ⟨str.toArray⟩ (by rw [sJ];exact hroom) zfR;rw [hr] at et;cases et;exact .inl bH
   ·have holds:∀ j u,xs[j]?=some u->w.cell? ((⟨g,0,none⟩:Addr).add j)=some u:=World.ownsRow.cells (g:=g) gi rfl;have et:=Lib.run_append_grow_string (P:=P) w t u ty e i (.int .u8 0) hu gS hi hz ⟨g,0,none⟩ n cap xs zgc holds ⟨str.toArray⟩ zfR zfR zgu;rw [hr] at et;cases et;exact zbb
 ·rcases gi.2 with ⟨rfl,rfl⟩ | ⟨g,cap,cur,rfl,pR,hg,sG,zo,iT,Di⟩
  ·exact .inl (j0.mono fun k _ hk=>by cases hk)
  ·by_cases hroom:n+str.length<=cap
   ·have Xy:cur.size=cap:=by simpa using iT
    have et:=Lib.run_append_room_string (P:=P) w t u ty e i hu gS hi dR g n cap cur hg ⟨str.toArray⟩ (by rw [sJ];exact hroom) zfR;rw [hr] at et;cases et;exact zbq
   ·have holds:∀ j u,xs[j]?=some u->w.cell? ((⟨g,0,none⟩:Addr).add j)=some u:=World.ownsRow.cells (g:=g) gi rfl;have et:=Lib.run_append_grow_string (P:=P) w t u ty e i (.int .u8 0) hu gS hi hz ⟨g,0,none⟩ n cap xs zgc holds ⟨str.toArray⟩ zfR zfR zgu;rw [hr] at et;cases et;exact zc2
theorem R.jn {x:Operand} {s:TypeId} {i off:Nat} [hT:fF P s i off 1 false] {vs:List Value} {v:Value} (hx:ev l x=.agg vs.toArray) (hv:vs[off]?=some v):fg P l w (.field s x i) v:=fun d ty pos af=>by
 obtain ⟨hT⟩:=hT;unfold Mp at hT;split at hT
 ·rename_i fs hu;split at hT
  ·rename_i f hf;simp only [aI,beq_iff_eq,bne_iff_ne,ne_eq] at hT;obtain ⟨⟨⟨D,X⟩,h3⟩,h4⟩:=hT
   have hag:(isAgg f.type).run P w=.ok false w:=by
    cases hd:P.underlying f.type with
    | none=>simp [hd] at h4
    | some d =>
     rw [hd] at h4;unfold isAgg;rw [Sem.run_bind,run_underlying hd w]
     cases d <;> simp_all [AM]
   have Dk:vs.toArray[f.offset]?=some v:=by rw [D];simpa using hv
   have hv2:vs[f.offset]?=some v:=by rw [D];exact hv
   simp [execOp,Instr.field,hx,run_underlying hu,hf,part,asAgg,hag,Dk,hv2]
  ·cases hT
 ·cases hT
end
end Go.Xw
namespace Go.Xg
open Go.RowKit Go.Xw
open GV (U)
section
variable {P:Program} {m:Nat} {Q:dW} {fr:List GV} {Γ:List Ob} {ops:Array Oper} {rest:List Oper} {d:Option Tmp} {op:Op} {ty:TypeId} {pos:String} {af:Array Edge}
theorem YG.jn {x:Operand} {s:TypeId} {i off:Nat} [hT:fF P s i off 1 false] {cs:List GV} {g:GV} (hx:bf fr x=.agg cs) (hg:cs[off]?=some g):YG P (.field s x i) fr Γ g:=fun B K β w l hI hF=>by
 have h:=hF.ev x;rw [hx] at h;generalize hv:ev l x=v at h
 cases h with
 | agg vs _ hl h =>
  have hi:off < vs.length:=by rw [hl];exact (bu hg).1
  exact ⟨vs[off],R.jn hv zge,h off _ g zge hg⟩
abbrev bS (s:ah):List (List GV):=s.map fun c=>[.v (.int .u8 (c.toNat:Int))]
theorem GL.D1 {s x:Operand} {t u e:Nat} [hT:Fa P t e] [hU:rS P u] {i n fz:Nat} {rows:List (List GV)} {str:ah} (hx:bf fr x=.v (sv str)) (hs:bf fr s=.vec i n) (bD:Γ[i]?=some (.vec e 1 fz rows)) (hn:rows.length=n) (bT:str.isEmpty=false)
  (hb:n+str.length<=140737488355328)
  (h:GL P m ops Q rest (bM fr d (.vec i (n+str.length))) (oset Γ i (.vec e 1 fz (rows++bS str)))) :
  GL P m ops Q (⟨d,.call ⟨.builtin .append,#[s,x],#[t,u]⟩,ty,pos,af,none⟩::rest) fr Γ:=fun B K β w l hm hI hF=>by
 subst hn
 have bT:str≠[]:=by intro h0;rw [h0] at bT;cases bT
 obtain ⟨h0,xs,o1,o2,o3,o4,o5,o6⟩:=hI.ob i _ bD;have vB:=hF.ev s;rw [hs] at vB
 have sK:ev l s=h0:=by
  generalize hv:ev l s=v at vB
  cases vB with
  | vec _ _ a c hh =>
   obtain ⟨h',m',e1,e2,e3⟩:=hh;rw [o1] at e1;cases e1;exact e3 rfl
 have lV:(bS str).flatten=str.map fun c=>GV.v (.int .u8 (c.toNat:Int)):=by
  unfold bS;clear hx bT hb h;generalize str=s
  induction s with
  | nil=>rfl
  | cons c r ih=>exact zdz
 have hlen:(bS str).length=str.length:=by simp [bS]
 refine WL.D1 (base:=0) (v:=h0) (n:=rows.length) (xs:=xs) (str:=str) sK o2 (hF.ko hx) hb (aX _) ?_;intro v' w' how j0 mM uF
 obtain ⟨K',hK,mR,bA⟩:=hI.grow bD o1 ⟨o2,o3⟩ (news:=bS str) (ns:=mH str) (by rw [hlen];exact how) j0 mM (by rw [lV];exact (by
   have:(str.map fun c=>GV.v (.int .u8 (c.toNat:Int)))=qA (mH str):=by simp [qA,mH]
   rw [this];exact bs.self)) (fun r hr=>by
   simp only [bS,wW] at hr;obtain ⟨c,_,rfl⟩:=hr
   exact ⟨rfl,fun g hg=>by rw [List.mem_singleton] at hg;subst hg;rfl⟩) (by intro h0;exact bT (List.map_eq_nil_iff.1 h0)) (fun b bH o v ho hv=>by
  rcases uF with h7 | h7
  ·exact h7.c hv (fun h=>h)
  ·have jT:o < xs.length:=by rw [o2.1];exact ze ho (sA 1 o6)
   obtain ⟨b2,c2,nO,_,_,ly⟩:=o2.cells.2 (by intro h0;rw [h0] at jT;simp at jT)
   have ej:b2=b:=by rw [nO] at bH;cases bH;rfl
   subst ej;have FN:=ly o xs[o] (by simp [jT]);rw [gk,hv] at FN;cases FN;obtain ⟨b3,c3,Pf,_,_,Pd⟩:=how.cells.2 (by intro h0;have:xs=[]:=(List.append_eq_nil_iff.1 h0).1;rw [this] at jT;simp at jT)
   have vm:b3=b2:=by rw [Pf,bH] at h7;cases h7;rfl
   subst vm
   rw [<-gk];exact Pd o _ zgp)
 rw [<-bK] at bA;refine h B K' _ w' _ hm bA ((hF.mono hK mR).put d ?_);obtain ⟨a,c,rfl⟩:=how.shape;exact .vec i _ a c ⟨_,_,bC,by simp [hlen],fun _=>by simp [hlen]⟩
end
theorem GF.Yk {P:Program} {f:FuncId} {vs:List Value} {v:Value} (h:∀ K β w,lP K β w->nE K w->oJ P f vs w fun x w'=>x=v/\Ext gL w w'):GF P f (vs.map GV.v) [] (.v v) []:=fun B K β w us hm hI hF=>by
 have hv:us=vs:=by
  obtain ⟨D,X⟩:=hF;apply ext_getElem
  ·simpa using D
  ·intro i h3 h4;have:=X i us[i] (.v vs[i]) (by simp [h3]) (by simp [h4]);exact Rel.eE this
 subst hv
 exact (h K β w hI.tab hI.fz).mono fun x w' ⟨D,X⟩=>⟨K,β,.v v,[],hI.same X,by rw [D];exact .v _,rfl,rfl⟩
theorem lP.cell {K:Fz} {β:Bt} {w:World} (h:lP K β w) (hf:nE K w) {b o:Nat} {x:Value} (hk:∀ m,zz m b o=some (.v x)):ja w.heap b o=some x:=by
 obtain ⟨m,h⟩:=h.le;obtain ⟨_,v,hv,hr⟩:=hf b o _ (h b o _ (hk m));rw [hv,Rel.eE hr]
theorem lP.maxLen {K:Fz} {β:Bt} {w:World} (h:lP K β w) (hf:nE K w):∃ m,w.cell? ⟨0,0,none⟩=some (.int .i64 m):=by
 obtain ⟨m,h⟩:=h.le
 have hk:zz m 0 0=some (.v (.int .i64 m)):=by simp [zz]
 obtain ⟨_,v,hv,hr⟩:=hf _ _ _ (h _ _ _ hk);exact ⟨m,by rw [gk,hv,Rel.eE hr]⟩
theorem vb.all {K:Fz} {β:Bt} {w:World} (h:lP K β w) (hf:nE K w) {b n:Nat} {zs:List Value} (hb:vb w b n) (hn:zs.length=n) (hk:∀ m o x,zs[o]?=some x->zz m b o=some (.v x)):∃ E z,w.heap[b]?=some (.cells zs.toArray E z):=by
 obtain ⟨cs,E,z,D,X⟩:=hb;refine ⟨E,z,?_⟩
 have:cs=zs.toArray:=by
  apply Array.ext
  ·simp [X,hn]
  ·intro i hi qR
   have hx:zs[i]?=some zs.toArray[i]:=by simp
   have h3:=h.cell hf (b:=b) (o:=i) (fun m=>hk m i _ hx)
   have h4:ja w.heap b i=cs[i]?:=by rw [<-gk,cell_of_row w b i cs E z D]
   rw [h4] at h3;simpa [hi] using h3
 rw [D,this]
theorem GF.abQ {P:Program} {f:FuncId} {vs us:List Value} {E:TypeId} (h:∀ K β w,lP K β w->nE K w->oJ P f vs w fun x w'=>x=.slice (some ⟨w.heap.size,0,none⟩) us.length us.length/\w'=w.alloc (.cells us.toArray E)):GF P f (vs.map GV.v) [] (.sl 1 (us.map fun u=>[.v u])) []:=fun B K β w ws hm hI hF=>by
 have hv:ws=vs:=by
  obtain ⟨D,X⟩:=hF;apply ext_getElem
  ·simpa using D
  ·intro i h3 h4;have:=X i ws[i] (.v vs[i]) (by simp [h3]) (by simp [h4]);exact Rel.eE this
 subst hv
 refine (h K β w hI.tab hI.fz).mono fun x w' ⟨D,X⟩=>?_
 subst D;subst X;have hn:=xi.of w (.cells us.toArray E);obtain ⟨hle,bA⟩:=hI.wo hn (cs:=us.map .v) bs.self (fun g hg=>by obtain ⟨u,_,rfl⟩:=wW.1 hg;rfl);refine ⟨_,β,.sl 1 (us.map fun u=>[.v u]),[],bA,?_,rfl,rfl⟩;have:=Rel.sl (K:=mZ K w.heap.size (us.map .v)) (β:=β) w.heap.size 0 us.length 1 (us.map fun u=>[.v u]) (fun i r hr=>?_) zfu
 ·rw [cj] at this;exact this
 ·rw [bp] at hr
  cases hu:us[i]? with
  | none=>rw [hu] at hr;cases hr
  | some u =>
   rw [hu] at hr;cases hr;refine ⟨rfl,fun j g hg=>?_⟩
   cases j with
   | zero=>cases hg;rw [ed,Nat.mul_one,Nat.add_zero];exact xk (by rw [bp,hu];rfl)
   | succ j=>simp at hg
section
variable {B:Bs} {K:Fz} {β:Bt} {Γ:List Ob} {w:World}
theorem Inv.swap {i:Nat} {y:Ob} (h:Inv B K β Γ w) (ho:lB K β w i y):Inv B K β (oset Γ i y) w:=by
 refine ⟨h.ext,h.kle,h.ble,h.loc,h.fz,fun j x hj=>?_,fun j hj=>h.out j zgt,h.dis,h.own,h.kn,h.tab⟩;rw [bK,eG] at hj;split at hj
 ·rename_i fj;split at hj
  ·cases hj;subst fj;exact ho
  ·cases hj
 ·exact h.ob j x hj
theorem Inv.AG {i E k:Nat} {rows:List (List GV)} {x:Value} (h:Inv B K β Γ w) (hi:Γ[i]?=some (.vech E k rows x)):Inv B K β (oset Γ i (.vec E k 0 rows)) w:=by
 obtain ⟨xs,D,X,h3,h4,h5⟩:=h.ob i _ hi;exact h.swap ⟨x,xs,D,X,h3,h4,fun b hb=>⟨fun o _=>h5 b hb o,fun o g ho=>by omega⟩,aX _⟩
theorem Inv.xa {i E k:Nat} {rows:List (List GV)} (h:Inv B K β Γ w) (hi:Γ[i]?=some (.vec E k 0 rows)):∃ a c,β i=.gr (.slice a rows.length c) rows.length/\Inv B K β (oset Γ i (.vech E k rows (.slice a rows.length c))) w:=by
 obtain ⟨x,xs,D,X,h3,h4,h5,h6⟩:=h.ob i _ hi;obtain ⟨a,c,rfl⟩:=X.shape;exact ⟨a,c,D,h.swap ⟨xs,D,X,h3,h4,fun b hb o=>(h5 b hb).1 o G⟩⟩
theorem ru {i:Nat} {x y:Ob} (h:Γ[i]?=some x):(oset Γ i y)[i]?=some y:=by
 have:=(bu h).1;rw [bK,eG];simp [this]
theorem p8 {i:Nat} {x y:Ob}:oset (oset Γ i x) i y=oset Γ i y:=by rw [bK,bK,bK,List.set_set]
theorem Inv.gr {i E k:Nat} {rows:List (List GV)} {x:Value} (h:Inv B K β Γ w) (hi:Γ[i]?=some (.vech E k rows x)):β i=.gr x rows.length:=by
 obtain ⟨xs,D,_⟩:=h.ob i _ hi;exact D
theorem Inv.rh {i E k:Nat} {rows:List (List GV)} {x:Value} (h:Inv B K β Γ w) (hi:Γ[i]?=some (.vech E k rows x)):∃ K',cW K K'/\Rel K' β x (.sl k rows)/\Inv B K' β (oset Γ i (.vec E k rows.length rows)) w:=by
 obtain ⟨xs,D,X,h3,h4,h5⟩:=h.ob i _ hi;obtain ⟨K',hK,FF,bA⟩:=(h.AG hi).lr (ru hi);rw [<-bK,p8] at bA;refine ⟨K',hK,?_,bA⟩
 rcases X.2 with ⟨e5,e6⟩ | ⟨g,cap,cu,e5,_,_,sG,_⟩
 ·have:rows=[]:=gx e6;subst this;subst e5;exact .sl0 _ _ _
 ·subst e5;refine .sl g 0 cap k rows (fun j r hr=>⟨(h4 r (br hr)).1,fun q g' kU=>?_⟩) sG;rw [ed];exact FF _ g D rfl _ g' (vP h4 hr kU)
end
section
variable {P:Program} {m:Nat} {Q:dW} {fr:List GV} {Γ:List Ob} {ops:Array Oper} {rest:List Oper} {d:Option Tmp} {op:Op} {ty:TypeId} {pos:String} {af:Array Edge}
theorem Wk.ln (E k:Nat):Wk m fr Γ fr (Γ++[.vech E k [] (.slice none 0 0)]):=fun B K β w l hm hI hF=>by
 have cl:β Γ.length=.no:=hI.out _ (aH _);have bA:=hI.L8 (w':=w) (E:=E) (k:=k) (x:=.slice none 0 0) (xs:=[]) (rows:=[]) (Ext.refl w) (iL.nil w 0 E k) (fun b hb=>by cases hb) bs.nil (fun r hr=>by cases hr);have hle:dI β (fw β Γ.length (.gr (.slice none 0 0) ([]:List (List GV)).length)):=jy zfX;refine ⟨K,_,?_,hF.mono (cW.refl K) hle⟩;have hb:fw β Γ.length (.gr (.slice none 0 0) ([]:List (List GV)).length) Γ.length=.gr (.slice none 0 0) ([]:List (List GV)).length:=bC;have:=bA.swap (i:=Γ.length) (y:=.vech E k [] (.slice none 0 0)) ⟨[],hb,iL.nil w 0 E k,bs.nil,(fun r hr=>by cases hr),(fun b hb=>by cases hb)⟩;rw [bK] at this;exact zbT
theorem Wk.Bd {t i E k:Nat} {rows:List (List GV)} {x:Value} (ht:cP fr t=.v x) (mu:ku fr t=true) (bD:Γ[i]?=some (.vech E k rows x)):Wk m fr Γ (bQ fr t (.sl k rows)) (oset Γ i (.vec E k rows.length rows)):=fun B K β w l hm hI hF=>by
 obtain ⟨K',hK,hr,bA⟩:=hI.rh bD;refine ⟨K',β,bA,?_⟩;have hv:nth l t=x:=Rel.eE (by rw [<-ht];exact hF.nth t);have:=(hF.mono hK (dI.refl β)).fT t hr;rw [<-hv,CF (oW hF mu)] at this;exact this
theorem bs.bQ {K:Fz} {β:Bt} {x:Value} {g:GV} (hr:Rel K β x g):∀ {vs:List Value} {cs:List GV} {o:Nat},bs K β vs cs->cs[o]?=some (.v x)->bs K β vs (bQ cs o g):=by
 intro vs
 induction vs with
 | nil=>intro cs o h ho;exact zdx
 | cons v vs ih =>
  intro cs o h ho
  cases cs with
  | nil=>simp at ho
  | cons c cs =>
   obtain ⟨a1,a2⟩:=h.qd
   cases o with
   | zero=>cases ho;have hv:=Rel.eE a1;subst hv;exact .cons hr a2
   | succ o=>exact .cons a1 (ih a2 (by simpa using ho))
theorem Wk.tM {i o j E k:Nat} {T:TypeId} {cs:List GV} {rows:List (List GV)} {x:Value} (hi:Γ[i]?=some (.box T cs)) (ho:cs[o]?=some (.v x)) (fj:Nat.beq i j=false) (hj:Γ[j]?=some (.vech E k rows x)):Wk m fr Γ fr (oset (oset Γ j (.vec E k rows.length rows)) i (.box T (bQ cs o (.sl k rows)))):=fun B K β w l hm hI hF=>by
 have bT:i≠j:=by intro e;subst e;simp at fj
 obtain ⟨K',hK,hr,bA⟩:=hI.rh hj;obtain ⟨b,vs,D,X,h3,h4⟩:=bA.ob i (.box T cs) zfJ;exact ⟨K',β,bA.swap ⟨b,vs,D,X,bs.bQ hr h3 ho,h4⟩,hF.mono hK (dI.refl β)⟩
def gF:List (List GV)->Nat->Nat->GV->List (List GV)
 | [],_,_,_=>[]
 | r::rs,0,o,g=>bQ r o g::rs
 | r::rs,n+1,o,g=>r::gF rs n o g
theorem Hr:∀ (l:List GV) (o:Nat) (g:GV),(bQ l o g).length=l.length
 | [],_,_=>rfl
 | _::l,0,_=>rfl
 | _::l,o+1,g=>by simp [bQ,Hr l o g]
theorem B9:∀ (a b:List GV) (o:Nat) (g:GV),bQ (a++b) (a.length+o) g=a++bQ b o g
 | [],b,o,g=>by simp
 | x::a,b,o,g=>by
  rw [cons_append,length_cons,show a.length+1+o=(a.length+o)+1 by omega,bQ,B9 a b o g];rfl
theorem FB:∀ (a b:List GV) (o:Nat) (g:GV),o < a.length->bQ (a++b) o g=bQ a o g++b
 | [],b,o,g,h=>by simp at h
 | x::a,b,0,g,h=>rfl
 | x::a,b,o+1,g,h=>by simp [bQ,FB a b o g zfx]
theorem RU {l:List GV} {o:Nat} {g x:GV} (h:x∈bQ l o g):x∈l\/x=g:=by
 induction l generalizing o with
 | nil=>cases h
 | cons y l ih =>
  cases o with
  | zero =>
   simp only [bQ,List.mem_cons] at h;rcases h with h | h
   ·exact .inr h
   ·exact .inl (dm _ h)
  | succ o =>
   simp only [bQ,List.mem_cons] at h;rcases h with h | h
   ·exact .inl (by rw [h];exact mem_cons_self)
   ·exact (ih h).imp (dm _) id
theorem eo:∀ (rows:List (List GV)) (i o:Nat) (g:GV),(gF rows i o g).length=rows.length
 | [],_,_,_=>rfl
 | r::rs,0,_,_=>rfl
 | r::rs,n+1,o,g=>by simp [gF,eo rs n o g]
theorem wN {k:Nat} {o:Nat} {g:GV} (ho:o < k):∀ {rows:List (List GV)} {i:Nat},jx k rows->i < rows.length->(gF rows i o g).flatten=bQ rows.flatten (i * k+o) g
 | [],_,_,h=>by simp at h
 | r::rs,0,hk,_=>by
  have:=(hk r (mem_cons_self)).1;rw [gF,flatten_cons,flatten_cons,Nat.zero_mul,ed,FB _ _ _ _ G]
 | r::rs,n+1,hk,h=>by
  have:=(hk r (mem_cons_self)).1;rw [gF,flatten_cons,flatten_cons,wN ho (fun r hr=>hk r (dm _ hr)) zfx,show (n+1) * k+o=r.length+(n * k+o) by rw [Nat.succ_mul];omega,B9]
theorem Bc {k:Nat} {o:Nat} {g:GV} (hg:g.pc=true):∀ {rows:List (List GV)} {i:Nat},jx k rows->jx k (gF rows i o g)
 | [],_,_=>fun r hr=>by cases hr
 | r::rs,0,hk=>fun r' hr=>by
  simp only [gF,List.mem_cons] at hr
  rcases hr with rfl | hr
  ·exact ⟨by rw [Hr];exact (hk r mem_cons_self).1,fun x hx=>by
    rcases RU hx with h | h
    ·exact (hk r mem_cons_self).2 x h
    ·rw [h];exact hg⟩
  ·exact hk r' (dm _ hr)
 | r::rs,n+1,hk=>fun r' hr=>by
  simp only [gF,List.mem_cons] at hr
  rcases hr with rfl | hr
  ·exact hk _ mem_cons_self
  ·exact Bc hg (fun r hr=>hk r (dm _ hr)) r' hr
theorem Iy {a b:List (List GV)} {r:List GV} {o:Nat} {g:GV}:gF (a++r::b) a.length o g=a++bQ r o g::b:=by
 induction a with
 | nil=>rfl
 | cons x a ih=>rw [cons_append,length_cons,gF,ih];rfl
theorem Wk.Ns {i idx o j E k T k':Nat} {rows ks:List (List GV)} {x h:Value} {r:List GV} (hi:Γ[i]?=some (.vech T k rows h)) (hr:rows[idx]?=some r) (ho:r[o]?=some (.v x)) (fj:Nat.beq i j=false) (hj:Γ[j]?=some (.vech E k' ks x)) :
  Wk m fr Γ fr (oset (oset Γ j (.vec E k' ks.length ks)) i (.vech T k (gF rows idx o (.sl k' ks)) h)):=fun B K β w l hm hI hF=>by
 have bT:i≠j:=by intro e;subst e;simp at fj
 obtain ⟨K',hK,jq,bA⟩:=hI.rh hj;obtain ⟨xs,D,X,h3,h4,h5⟩:=bA.ob i (.vech T k rows h) zfJ;have au:=(bu hr).1
 have Ac:o < k:=by rw [<-(h4 r (br hr)).1];exact (bu ho).1
 exact ⟨K',β,bA.swap ⟨xs,by rw [eo];exact D,by rw [eo];exact X,by rw [wN Ac h4 au];exact bs.bQ jq h3 (vP h4 hr ho),Bc rfl h4,h5⟩,hF.mono hK (dI.refl β)⟩
theorem YG.aQ {x y:Operand} {t e:TypeId} {k:Nat} [hT:oK P t e k] (i:Nat) {v:Value} {kk:IntKind} {j E:Nat} {rows:List (List GV)} (hx:bf fr x=.v v) (hy:bf fr y=.v (.int kk j)) (bD:Γ[i]?=some (.vech E k rows v)) (hj:j < rows.length):YG P (.indexAddr t x y) fr Γ (.vp i rows.length k j 0):=fun B K β w l hI hF=>by
 have hv:=hF.ko hx;obtain ⟨xs,D,X,h3,h4,h5⟩:=hI.ob i _ bD
 rcases X.2 with ⟨h8,h9⟩ | ⟨g,cap,cur,h8,_,hg,_⟩
 ·omega
 ·subst h8;exact ⟨_,R.kJ hv (hF.ko hy) hj,.vp i _ k j 0 _ ⟨_,_,D,aH _,fun _=>⟨g,rfl,by simp⟩⟩⟩
theorem YG.WZ {x:Operand} {s:TypeId} {f off k:Nat} {agg:Bool} [hT:fF P s f off k agg] {i n k' idx o E:Nat} {rows:List (List GV)} {v:Value} (hx:bf fr x=.vp i n k' idx o) (bD:Γ[i]?=some (.vech E k' rows v)) (hn:rows.length=n):YG P (.fieldAddr s x f) fr Γ (.vp i n k' idx (o+off)):=fun B K β w l hI hF=>by
 have h:=hF.ev x;rw [hx] at h;generalize hv:ev l x=u at h
 cases h with
 | vp _ _ _ _ _ _ h =>
  obtain ⟨h0,m,D,X,h3⟩:=h;rw [hI.gr bD] at D;cases D;obtain ⟨b,hb,rfl⟩:=h3 hn;exact ⟨_,R.RH hv,.vp i n k' idx _ _ ⟨_,_,hI.gr bD,X,fun _=>⟨b,hb,by rw [iy]⟩⟩⟩
theorem YG.ldH {x:Operand} {t:TypeId} [hT:Ty P t false 1] {i n k idx o E:Nat} {rows:List (List GV)} {v:Value} {r:List GV} {g:GV} (hx:bf fr x=.vp i n k idx o) (bD:Γ[i]?=some (.vech E k rows v)) (hn:rows.length=n) (hr:rows[idx]?=some r) (hg:r[o]?=some g):YG P (.load t x) fr Γ g:=fun B K β w l hI hF=>by
 have h:=hF.ev x;rw [hx] at h;generalize hv:ev l x=u at h
 cases h with
 | vp _ _ _ _ _ _ h =>
  obtain ⟨h0,m,D,X,h3⟩:=h;obtain ⟨xs,h4,h5,h6,h7,_⟩:=hI.ob i _ bD;rw [D] at h4;cases h4;obtain ⟨b,hb,rfl⟩:=h3 hn;obtain ⟨u,hu,jq⟩:=h6.at (vP h7 hr hg);obtain ⟨b2,c,he,_,_,hc⟩:=h5.cells.2 (by intro h0;rw [h0] at hu;simp at hu);subst he;cases hb;exact ⟨u,R.ld hv (by rw [<-gk];exact hc _ _ hu),jq⟩
theorem I2 {v:Value}:∀ (l:List Value) (n o:Nat),o < n->(fT l o v).take n=fT (l.take n) o v
 | [],n,o,h=>by simp [fT]
 | x::l,0,o,h=>by omega
 | x::l,n+1,0,h=>by simp [fT]
 | x::l,n+1,o+1,h=>by simp [fT,I2 l n o G]
theorem zb {v:Value}:∀ (l:List Value) (o:Nat),(fT l o v).length=l.length
 | [],o=>rfl
 | x::l,0=>rfl
 | x::l,o+1=>by simp [fT,zb l o]
theorem GL.DL {x y:Operand} {t:TypeId} [hT:Ty P t false 1] {i n k idx o E:Nat} {rows:List (List GV)} {v:Value} {r:List GV} {g:GV} (hx:bf fr x=.vp i n k idx o) (bD:Γ[i]?=some (.vech E k rows v)) (hn:rows.length=n) (hr:rows[idx]?=some r) (Ac:Nat.blt o r.length=true)
  (hy:nM (bf fr y)=some [g]) (D:g.one=true) (hp:g.pc=true) (h:GL P m ops Q rest (bM fr d (.v undef)) (oset Γ i (.vech E k (gF rows idx o g) v))):GL P m ops Q (⟨d,.store t x y,ty,pos,af,none⟩::rest) fr Γ:=fun B K β w l hm hI hF=>by
 have XX:=hF.ev x;rw [hx] at XX;generalize hv:ev l x=u at XX
 cases XX with
 | vp _ _ _ _ _ _ hh =>
  obtain ⟨h0,mm,e1,e2,e3⟩:=hh;obtain ⟨xs,h4,h5,h6,h7,h8⟩:=hI.ob i _ bD;rw [e1] at h4;cases h4;obtain ⟨b,hb,rfl⟩:=e3 hn;have au:=(bu hr).1
  have XQ:o < k:=by rw [<-(h7 r (br hr)).1];simpa using Ac
  obtain ⟨us,oe,oU⟩:=(hF.ev y).cells hy
  obtain ⟨u1,rfl⟩:∃ u1,us=[u1]:=by
   have:=oU.1
   match us,this with
   | [u1],_=>exact ⟨u1,rfl⟩
  have hu3:Rel K β u1 g:=oU.2 0 u1 g rfl rfl
  have hq:idx * k+o < rows.length * k:=by
   have:(idx+1) * k<=rows.length * k:=sA k au;rw [Nat.succ_mul] at this;omega
  rcases h5.2 with ⟨e5,e6⟩ | ⟨g0,cap,cur,e5,Zp,hg,sG,zo,dR,nP⟩
  ·omega
  ·subst e5;simp only [Value.ownBlock,Option.some.injEq] at hb;subst hb;have Xt:rows.length * k<=cap * k:=sA k sG
   refine WL.st (t:=t) (k:=1) hv rfl hg (by rw [oe];rfl) G (by rw [oe];have:=(yW (hu3.one D)).2;simpa [Xw.oz] using this) fun w' hs=>?_
   rw [oe] at hs
   have iT:xd cur (idx * k+o) ([u1]:List Value)=(fT cur.toList (idx * k+o) u1).toArray:=by
    simp only [xd];rw [<-DO]
   simp only [List.toList_toArray,iT] at hs
   have Gx:rows.flatten.length=rows.length * k:=by rw [<-h6.1];exact h5.1
   have how:iL w' 0 E k (.slice (some ⟨g0,0,none⟩) rows.length cap) rows.length (fT xs (idx * k+o) u1) :=
    ⟨by rw [zb];exact h5.1,.inr ⟨g0,cap,_,rfl,Zp,hs.blk,sG,zo,by simp [zb,dR],by rw [List.toList_toArray,I2 _ _ _ hq,nP]⟩⟩
   have jq:bs K β (fT xs (idx * k+o) u1) (bQ rows.flatten (idx * k+o) g):=by
    have gen:∀ (vs:List Value) (cs:List GV) (q:Nat),bs K β vs cs->bs K β (fT vs q u1) (bQ cs q g):=by
     intro vs
     induction vs with
     | nil=>intro cs q h;have:cs=[]:=gx h.1.symm;subst this;exact h
     | cons v vs ih =>
      intro cs q h
      cases cs with
      | nil=>have:=h.1;simp at this
      | cons c cs =>
       obtain ⟨a1,a2⟩:=h.qd
       cases q with
       | zero=>exact .cons hu3 a2
       | succ q=>exact .cons a1 (ih cs q a2)
    exact gen _ _ _ h6
   have eH:(β i).has g0:=by rw [e1];exact rfl
   have bA:Inv B K β (oset Γ i (.vech E k (gF rows idx o g) (.slice (some ⟨g0,0,none⟩) rows.length cap))) w':=by
    refine ⟨hI.ext.step hs.ext (fun j hj=>?_),hI.kle,hI.ble,hI.loc,hI.fz.ext hs.ext (fun b' o' g' kU he=>?_),fun j y hj=>?_,fun j hj=>hI.out j zgt,hI.dis,hI.own,hI.kn,hI.tab.step hs.ext (fun j hj=>⟨i,by subst hj;exact eH⟩) (cW.refl K) (fun i b2 h=>.inl ⟨i,h⟩)⟩
    ·subst hj;exact (hI.own i _ eH).symm
    ·subst he;rw [h8 _ rfl] at kU;cases kU
    ·rw [bK,eG] at hj;split at hj
     ·rename_i fj;split at hj
      ·cases hj;subst fj
       exact ⟨_,by rw [eo];exact e1,by rw [eo];exact how,by rw [wN XQ h7 au];exact jq,Bc hp h7,h8⟩
      ·cases hj
     ·rename_i fj;refine (hI.ob j y hj).ext hs.ext (fun b' bH he=>?_) (cW.refl K) (dI.refl β) rfl (fun _ _ _ h=>h);subst he;exact fj (hI.dis i j _ eH bH)
   exact h B K β w' _ hm bA (hF.put d (.v _))
theorem GL.hO {x:Operand} {ts:Tmp} {t e k kD:Nat} {z:List Value} [hT:qH P t e k kD] [hZ:rR P t e k z] {d1 dt:Tmp} {QL:TypeId} {Ir:String} {NW:Array Edge} (i:Nat) {n:Nat} {rows:List (List GV)} {gs:List GV} {v:Value}
  (hx:nM (bf fr x)=some gs) (hk:Nat.beq gs.length k=true) (D:oA gs=true) (hp:rN gs=true) (hs:cP fr ts=.v v) (XZ:Nat.beq ts d1=false) (hd:ku fr d1=true) (bD:Γ[i]?=some (.vech e k rows v)) (hn:rows.length=n)
  (hb:(n+1<=9223372036854775807/\(n+1) * kD<=140737488355328)/\k<=16777216)
  (h:∀ a c,GL P m ops Q rest (bM (bM fr (some d1) U) (some dt) (.v (.slice a (n+1) c))) (oset Γ i (.vech e k (rows++[gs]) (.slice a (n+1) c)))) :
  GL P m ops Q (⟨some d1,.buildSlice t 1 #[(0,x)],QL,Ir,NW,none⟩::⟨some dt,.call ⟨.builtin .append,#[.tmp ts,.tmp d1],#[t,t]⟩,ty,pos,af,none⟩::rest) fr Γ:=fun B K β w l hm hI hF=>by
 subst hn;obtain ⟨us,oe,oU⟩:=(hF.ev x).cells hx;obtain ⟨xs,o1,o2,o3,o4,o5⟩:=hI.ob i _ bD;have sK:nth l ts=v:=Rel.eE (by rw [<-hs];exact hF.nth ts);have C7:=oW hF hd
 have aby:ts≠d1:=by intro e;subst e;simp at XZ
 have fk:gs.length=k:=by simpa using hk
 refine WL.push (base:=0) (v:=v) (vs:=us) (val:=ev l x) (xs:=xs) (n:=rows.length) rfl (fun u=>by rw [show ev (put l (some d1) u) (.tmp ts)=nth (fT l d1 u) ts from rfl,qk aby];exact sK) (fun u=>uZ C7 u) oe (by rw [oU.1,fk]) (oU.oz D) o2 hb.1.1 hb.1.2 hb.2 (aX _) ?_;intro u v' w' how j0 mM uF;obtain ⟨K',hK,mR,bA⟩:=(hI.AG bD).grow (fz:=0) (ru bD) o1 ⟨o2,o3⟩ (news:=[gs]) (ns:=us) how j0 mM (by simpa using oU) (fun r hr=>by simp at hr;subst hr;exact ⟨fk,nS hp⟩) zfu (fun b bH o v ho hv=>by omega);rw [<-bK,p8] at bA;obtain ⟨a,c,vn,ua⟩:=bA.xa (ru bD);rw [p8] at ua;obtain ⟨a',c',rfl⟩:=how.shape;rw [bC] at vn;simp only [aO,length_cons,length_nil] at vn ua mR;cases vn;exact h _ _ B K' _ w' _ hm ua (((hF.mono hK mR).put (some d1) (.U u)).put (some dt) (.v _))
theorem GL.pk {s x:Operand} {t e k kD:Nat} [hT:qH P t e k kD] (i:Nat) {n:Nat} {dt:Tmp} {v:Value} {rows news:List (List GV)} (hx:bf fr x=.sl k news) (hs:bf fr s=.v v) (bD:Γ[i]?=some (.vech e k rows v)) (hn:rows.length=n) (D:oB news=true) (bT:news.isEmpty=false)
  (hb:n+news.length<=9223372036854775807/\(n+news.length) * kD<=140737488355328)
  (h:∀ a c,GL P m ops Q rest (bM fr (some dt) (.v (.slice a (n+news.length) c))) (oset Γ i (.vech e k (rows++news) (.slice a (n+news.length) c)))) :
  GL P m ops Q (⟨some dt,.call ⟨.builtin .append,#[s,x],#[t,t]⟩,ty,pos,af,none⟩::rest) fr Γ:=fun B K β w l hm hI hF=>by
 subst hn
 have bT:news≠[]:=by intro h0;rw [h0] at bT;cases bT
 obtain ⟨xs,o1,o2,o3,o4,o5⟩:=hI.ob i _ bD;have sK:ev l s=v:=hF.ko hs;have rH:=hF.ev x;rw [hx] at rH;generalize vD:ev l x=vx at rH
 cases rH with
 | sl0 a c k=>exact absurd rfl bT
 | sl b o c _ _ hr _ =>
  have nA:jx k news:=fun r Pt=>by
   exact zbp
  have Gx:∀ (rows:List (List GV)) (o:Nat),(∀ (j:Nat) r,rows[j]?=some r->r.length=k/\∀ (q:Nat) g,r[q]?=some g->K b (o+j * k+q)=some g)->∀ (q:Nat) g,rows.flatten[q]?=some g->K b (o+q)=some g:=by
   intro rows
   induction rows with
   | nil=>intro o _ q g hg;simp at hg
   | cons r rows ih =>
    intro o h q g hg;rw [flatten_cons] at hg;have hl:=(h 0 r rfl).1
    by_cases hq:q < r.length
    ·rw [ff hq] at hg;have:=(h 0 r rfl).2 q g hg;exact zbT
    ·rw [fA G,hl] at hg
     have:=ih (o+k) (fun j r' hj=>by
      have:=h (j+1) r' zfI;refine ⟨this.1,fun q g hg=>?_⟩;have:=this.2 q g hg
      rw [show o+(j+1) * k+q=o+k+j * k+q by rw [Nat.succ_mul];omega] at this;exact this) (q - k) g hg
     rw [show o+k+(q - k)=o+q by omega] at this;exact this
  obtain ⟨us,oe,oU⟩:=yt (K:=K) (β:=β) (H:=w.heap) (b:=b) news.flatten o (fun j g hj=>by
   obtain ⟨hp,u,hu,jq⟩:=hI.fz _ _ _ (Gx news o (fun j r hj=>hr j r hj) j g hj)
   exact ⟨u,hu,jq.pc hp⟩)
  have KS:us.length=news.length * k:=by
   rw [oe.1,List.length_flatten]
   have:∀ (rows:List (List GV)),jx k rows->(rows.map List.length).sum=rows.length * k:=by
    intro rows
    induction rows with
    | nil=>intro _;simp
    | cons r rows ih =>
     intro hk;exact zcn
   exact this news nA
  refine WL.app (base:=0) (v:=v) (n:=rows.length) (m:=news.length) (xs:=xs) (news:=us) sK o2 vD KS (fun j u hj=>by rw [gk];exact oU j u hj) (oe.oz (Dz D)) hb.1 hb.2 (aX _) ?_;intro v' w' how j0 mM uF;obtain ⟨K',hK,mR,bA⟩:=(hI.AG bD).grow (fz:=0) (ru bD) o1 ⟨o2,o3⟩ (news:=news) (ns:=us) how j0 mM oe nA bT (fun b bH o v ho hv=>by omega);rw [<-bK,p8] at bA;obtain ⟨a,c,vn,ua⟩:=bA.xa (ru bD);rw [p8] at ua;obtain ⟨a',c',rfl⟩:=how.shape;rw [bC] at vn;simp only [aO] at vn ua mR;cases vn;exact zek
end
class DZ (P:Program) (t:TypeId):Prop where
 und:∃ e j,P.underlying t=some (.pointer e)/\P.info? e=some j
theorem DZ.mk' {P:Program} {t e:TypeId} (h:P.underlying t=some (.pointer e)) (k:(P.info? e).isSome=true):DZ P t:=⟨e,(P.info? e).get k,h,by simp⟩
section
variable {P:Program} {m:Nat} {Q:dW} {fr:List GV} {Γ:List Ob} {ops:Array Oper} {rest:List Oper} {d:Option Tmp} {op:Op} {ty:TypeId} {pos:String} {af:Array Edge}
theorem YG.jm {x y:Operand} {t t':TypeId} [hT:DZ P t] {i o:Nat} (hx:bf fr x=.loc i o) (hy:bf fr y=.v (.pointer none)):YG P (.binOp .eql t x y t') fr Γ (.v (.bool false)):=fun B K β w l hI hF=>by
 have h:=hF.ev x;rw [hx] at h;generalize hv:ev l x=v at h
 cases h with
 | loc _ _ b hb =>
  obtain ⟨e,j,D,X⟩:=hT.und
  have hp:P.pointee t=e:=by simp [Program.pointee,D]
  have:=run_eql_pointer_nil (P:=P) w t (some ⟨b,o,none⟩) (by rw [hp];exact D);refine ⟨_,fun d ty pos af=>?_,.v _⟩;simp [execOp,eqGuard,hv,hF.ko hy,this]
theorem YG.jw {x y:Operand} {t t':TypeId} [hT:DZ P t] {i o:Nat} (hx:bf fr x=.loc i o) (hy:bf fr y=.loc i o):YG P (.binOp .neq t x y t') fr Γ (.v (.bool false)):=fun B K β w l hI hF=>by
 have h:=hF.ev x;rw [hx] at h;have h':=hF.ev y;rw [hy] at h';generalize hv:ev l x=v at h;generalize Dk:ev l y=v' at h'
 cases h with
 | loc _ _ b hb =>
  cases h' with
  | loc _ _ b' bH =>
   rw [hb] at bH;cases bH;obtain ⟨e,j,D,X⟩:=hT.und;have:=Lib.run_neq_ptr_same (P:=P) w ⟨b,o,none⟩ D X;refine ⟨_,fun d ty pos af=>?_,.v _⟩;simp [execOp,eqGuard,hv,Dk,this]
theorem Inv.again {B:Bs} {K:Fz} {β:Bt} {Γ:List Ob} {w w':World} {i E k:Nat} {rows:List (List GV)} {x:Value} {xs:List Value} (h:Inv B K β Γ w) (hi:Γ[i]?=some (.vech E k rows x)) (ho:iL w' 0 E k x rows.length xs) (hr:bs K β xs rows.flatten)
  (hx:Ext (fun b=>x.ownBlock=some b) w w'):Inv B K β Γ w':=by
 obtain ⟨xs0,D,X,h3,h4,h5⟩:=h.ob i _ hi
 have eH:∀ b,x.ownBlock=some b->(β i).has b:=fun b hb=>by rw [D];exact hb
 refine ⟨h.ext.step hx (fun j hj=>(h.own i j (eH j hj)).symm),h.kle,h.ble,h.loc,h.fz.ext hx (fun b o g hg he=>by rw [h5 b he o] at hg;cases hg),fun j y hj=>?_,h.out,h.dis,h.own,h.kn,h.tab.step hx (fun j hj=>⟨i,eH j hj⟩) (cW.refl K) (fun i b2 h=>.inl ⟨i,h⟩)⟩
 by_cases kV:j=i
 ·subst kV;rw [hi] at hj;cases hj;exact ⟨xs,D,ho,hr,h4,h5⟩
 ·exact (h.ob j y hj).ext hx (fun b hb he=>kV (h.dis j i b hb (eH b he))) (cW.refl K) (dI.refl β) rfl (fun _ _ _ h=>h)
theorem GL.Zi {s x:Operand} {t u e:Nat} [hT:Fa P t e] [hU:rS P u] (i:Nat) {n:Nat} {dt:Tmp} {v:Value} {rows:List (List GV)} {str:ah} (hx:bf fr x=.v (sv str)) (hs:bf fr s=.v v) (bD:Γ[i]?=some (.vech e 1 rows v)) (hn:rows.length=n) (bT:str.isEmpty=false)
  (hb:n+str.length<=140737488355328)
  (h:∀ a c,GL P m ops Q rest (bM fr (some dt) (.v (.slice a (n+str.length) c))) (oset Γ i (.vech e 1 (rows++bS str) (.slice a (n+str.length) c)))) :
  GL P m ops Q (⟨some dt,.call ⟨.builtin .append,#[s,x],#[t,u]⟩,ty,pos,af,none⟩::rest) fr Γ:=fun B K β w l hm hI hF=>by
 subst hn
 have bT:str≠[]:=by intro h0;rw [h0] at bT;cases bT
 obtain ⟨xs,o1,o2,o3,o4,o5⟩:=hI.ob i _ bD;have sK:ev l s=v:=hF.ko hs
 have lV:(bS str).flatten=str.map fun c=>GV.v (.int .u8 (c.toNat:Int)):=by
  unfold bS;clear hx bT hb h;generalize str=s
  induction s with
  | nil=>rfl
  | cons c r ih=>exact zdz
 have hlen:(bS str).length=str.length:=by simp [bS]
 refine WL.D1 (base:=0) (v:=v) (n:=rows.length) (xs:=xs) (str:=str) sK o2 (hF.ko hx) hb (aX _) ?_;intro v' w' how j0 mM uF
 obtain ⟨K',hK,mR,bA⟩:=(hI.AG bD).grow (fz:=0) (ru bD) o1 ⟨o2,o3⟩ (news:=bS str) (ns:=mH str) (by rw [hlen];exact how) j0 mM (by rw [lV];exact (by
   have:(str.map fun c=>GV.v (.int .u8 (c.toNat:Int)))=qA (mH str):=by simp [qA,mH]
   rw [this];exact bs.self)) (fun r hr=>by
   simp only [bS,wW] at hr;obtain ⟨c,_,rfl⟩:=hr
   exact ⟨rfl,fun g hg=>by rw [List.mem_singleton] at hg;subst hg;rfl⟩) (by intro h0;exact bT (List.map_eq_nil_iff.1 h0)) (fun b bH o v ho hv=>by omega)
 rw [<-bK,p8] at bA;obtain ⟨a,c,vn,ua⟩:=bA.xa (ru bD);rw [p8] at ua;obtain ⟨a',c',rfl⟩:=how.shape;rw [bC] at vn;simp only [aO,hlen] at vn ua mR;cases vn;exact zek
theorem GL.Zh {s x:Operand} {t u e:Nat} [hT:Fa P t e] [hU:rS P u] (i:Nat) {rows:List (List GV)} {v:Value} (hx:bf fr x=.v (sv [])) (hs:bf fr s=.v v) (bD:Γ[i]?=some (.vech e 1 rows v)) (hb:rows.length<=140737488355328)
  (h:GL P m ops Q rest (bM fr d (.v v)) Γ):GL P m ops Q (⟨d,.call ⟨.builtin .append,#[s,x],#[t,u]⟩,ty,pos,af,none⟩::rest) fr Γ:=fun B K β w l hm hI hF=>by
 obtain ⟨xs,o1,o2,o3,o4,o5⟩:=hI.ob i _ bD;have sK:=hF.ko hs;have vD:=hF.ko hx;obtain ⟨hu,i',hi,hz,dR,C6⟩:=hT.is;have vA:(⟨([]:ah).toArray⟩:ByteArray).size=0:=rfl;obtain ⟨v',w',hr,X,h3,h4⟩:=Lib.run_append_own_string (P:=P) w 0 t u ty e i' hu hU.und hi hz dR C6 v rows.length xs o2 ⟨([]:ah).toArray⟩ (by rw [vA];simp only [maxLen];omega) (by rw [vA];omega) (aX _)
 have Dk:v'=v:=by
  rcases o2.2 with ⟨rfl,h6⟩ | ⟨g,cap,cur,rfl,pR,hg,sG,zo,iT,Di⟩
  ·exact h4.2 ⟨rfl,rfl⟩
  ·have Xy:cur.size=cap:=by simpa using iT
   have et:=Lib.run_append_room_string (P:=P) w t u ty e i' hu hU.und hi dR g rows.length cap cur hg ⟨([]:ah).toArray⟩ (by rw [vA];omega) (by unfold maxLen at zo;rw [vA];omega);rw [hr] at et;cases et;rfl
 subst Dk;have pn:(Builtin.append_ #[t,u] ty #[v',sv []]).run P w=.ok v' w':=hr;have iT:Lib.strCells ⟨([]:ah).toArray⟩=[]:=rfl;rw [iT,ef] at X;have j0:Ext (fun b=>v'.ownBlock=some b) w w':=⟨h3.os,h3.tape,h3.output,h3.size,fun j hj hn=>h3.block j hj fun he=>hn he.symm⟩;have bA:=hI.again bD X o3 j0;exact WL.val (v:=v') (w':=w') zfT (h B K β w' _ hm bA (hF.put d (.v _)))
theorem YG.fY {x:Operand} {t:TypeId} (i:Nat) {E n c:Nat} {a:Option Addr} {rows:List (List GV)} (hx:bf fr x=.v (.slice a n c)) (bD:Γ[i]?=some (.vech E 1 rows (.slice a n c))) (hn:rows.length=n) (hp:Nat.blt 0 n=true) :
  YG P (.call ⟨.builtin .unsafeSliceData,#[x],#[t]⟩) fr Γ (.vp i n 1 0 0):=fun B K β w l hI hF=>by
 subst hn
 have hp:0 < rows.length:=by simpa using hp
 obtain ⟨xs,D,X,h3,h4,h5⟩:=hI.ob i _ bD;have hv:=hF.ko hx
 rcases X.2 with ⟨h8,h9⟩ | ⟨g,cap,cur,h8,_,hg,sG,_⟩
 ·omega
 ·cases h8
  have hr:=fun ts ty=>Lib.run_unsafeSliceData_row (P:=P) (w:=w) ts ty ⟨g,0,none⟩ rows.length c G
  exact ⟨.pointer (some ⟨g,0,none⟩),fun d ty pos af=>by simp [execOp,resolve,invoke,builtin,hv,hr],.vp i _ 1 0 0 _ ⟨_,_,D,aH _,fun _=>⟨g,rfl,by simp⟩⟩⟩
theorem GL.QN {x y:Operand} {pt it e:TypeId} (i:Nat) {str:ah} {rows:List (List GV)} {v:Value} (hp:P.underlying pt=some (.pointer e)) (hc:P.cellsOf e=1) (hx:bf fr x=.vp i str.length 1 0 0) (hy:bf fr y=.v (ii str.length)) (bD:Γ[i]?=some (.vech e 1 rows v)) (nA:rows=bS str)
  (bT:str.isEmpty=false) (hb:str.length<=140737488355328)
  (h:GL P m ops Q rest (bM fr d (.v (sv str))) (oset Γ i .lost)):GL P m ops Q (⟨d,.call ⟨.builtin .unsafeString,#[x,y],#[pt,it]⟩,ty,pos,af,none⟩::rest) fr Γ:=fun B K β w l hm hI hF=>by
 have bT:str≠[]:=by intro h0;rw [h0] at bT;cases bT
 subst nA;obtain ⟨xs,o1,o2,o3,o4,o5⟩:=hI.ob i _ bD
 have hlen:(bS str).length=str.length:=by simp [bS]
 have hr:=hF.ev x;rw [hx] at hr;have X7:=hF.ko hy;generalize hv:ev l x=u at hr
 cases hr with
 | vp _ _ _ _ _ _ hh =>
  obtain ⟨h0,mm,e1,e2,e3⟩:=hh;rw [e1] at o1;cases o1;obtain ⟨b,TQ,rfl⟩:=e3 hlen
  rcases o2.2 with ⟨h8,h9⟩ | ⟨g,cap,cur,h8,_,hg,sG,zo,iT,Di⟩
  ·rw [hlen] at h9;exact absurd (gx h9) bT
  ·subst h8;simp only [Value.ownBlock,Option.some.injEq] at TQ;subst TQ
   have pV:xs=mH str:=by
    have lV:(bS str).flatten=qA (mH str):=by
     have:(bS str).flatten=str.map fun c=>GV.v (.int .u8 (c.toNat:Int)):=by
      unfold bS;generalize str=s
      induction s with
      | nil=>rfl
      | cons c r ih=>exact zdz
     rw [this];simp [qA,mH]
    rw [lV] at o3;apply ext_getElem
    ·have:=o3.1;simpa [qA] using this
    ·intro j D X;have:=o3.2 j xs[j] (.v (mH str)[j]) (by simp [D]) (by simp [qA,X]);exact Rel.eE this
   have r8:∀ j y,str[j]?=some y->w.cell? ((⟨g,0,none⟩:Addr).add j)=some (.int .u8 y.toNat):=fun j y hy=>by
    have:=World.ownsRow.cells (g:=g) o2 rfl j (.int .u8 y.toNat) (by rw [pV];simp [mH,hy]);exact this
   have ab6:(bS str).length<=cur.size:=by rw [iT];omega
   have pn:=Lib.run_unsafeString_row (P:=P) w pt it ty e hp hc g cur.size (by simp [World.shape?,hg]) str bT G G r8
   have j0:Ext (·=g) w (w.freeze ⟨g,0,none⟩ str.length):=by
    have:=Lib.below_freeze (Below.refl 0 w) (p:=⟨g,0,none⟩) (aX g) str.length
    exact ⟨this.os,this.tape,this.output,this.size,fun k hk hn=>by
     unfold World.freeze;split
     ·rfl
     ·simp only [Array.getElem?_modify]
      rw [ab (fun he=>hn he.symm)]⟩
   have eH:(β i).has g:=by rw [e1];exact rfl
   have bA:Inv B K β (oset Γ i .lost) (w.freeze ⟨g,0,none⟩ str.length):=by
    refine ⟨hI.ext.step j0 (fun j hj=>by subst hj;exact (hI.own i _ eH).symm),hI.kle,hI.ble,hI.loc,hI.fz.ext j0 (fun b o g' kU he=>by subst he;rw [o5 _ rfl o] at kU;cases kU),fun j y hj=>?_,fun j hj=>hI.out j zgt,hI.dis,hI.own,hI.kn,hI.tab.step j0 (fun j hj=>⟨i,by subst hj;exact eH⟩) (cW.refl K) (fun i b2 h=>.inl ⟨i,h⟩)⟩;rw [bK,eG] at hj;split at hj
    ·rename_i fj;split at hj
     ·cases hj;subst fj
      intro b bH;rw [e1] at bH;cases bH;have:=uh hg;exact ze this j0.size
     ·cases hj
    ·rename_i fj;exact (hI.ob j y hj).ext j0 (fun b hb he=>by subst he;exact fj (hI.dis i j _ eH hb)) (cW.refl K) (dI.refl β) rfl (fun _ _ _ h=>h)
   exact WL.val (v:=sv str) (w':=w.freeze ⟨g,0,none⟩ str.length) (by simp [execOp,resolve,invoke,builtin,hv,X7,pn,sv]) (h B K β _ _ hm bA (hF.put d (.v _)))
theorem Inv.Tr {B:Bs} {K:Fz} {β:Bt} {Γ:List Ob} {w:World} {x:Bk} {y:Ob} (h:Inv B K β Γ w) (hd:∀ b,x.has b->(∀ i,¬ (β i).has b)/\B.w0.heap.size<=b/\(b≠1/\b≠2))
  (ho:lB K (fw β Γ.length x) w Γ.length y) (hold:dI β (fw β Γ.length x)):Inv B K (fw β Γ.length x) (Γ++[y]) w:=by
 refine ⟨h.ext,h.kle,h.ble.trans hold,h.loc,h.fz,fun i z hi=>?_,fun i hi=>?_,fun i j b hi hj=>?_,fun i b hi=>?_,h.kn,⟨h.tab.le,h.tab.pow,h.tab.spc,fun i b hi=>?_⟩⟩
 ·by_cases uC:i < Γ.length
  ·rw [ff uC] at hi;exact zcP
  ·have:i=Γ.length:=by have:=(bu hi).1;simp at this;omega
   subst this;simp at hi;subst hi;exact ho
 ·simp at hi;rw [bO G];exact h.out i G
 ·by_cases D:i=Γ.length <;> by_cases X:j=Γ.length
  ·omega
  ·subst D;rw [bC] at hi;rw [bO X] at hj;exact absurd hj ((hd b hi).1 j)
  ·subst X;rw [bC] at hj;rw [bO D] at hi;exact absurd hi ((hd b hj).1 i)
  ·rw [bO D] at hi;rw [bO X] at hj;exact h.dis i j b hi hj
 ·rcases lL hi with D | D
  ·exact .inr (hd b D).2.1
  ·exact h.own i b D
 ·rcases lL hi with D | D
  ·exact (hd b D).2.2
  ·exact h.tab.free i b D
theorem YG.aal {x lo:Operand} {t e:TypeId} {k:Nat} [hT:oK P t e k] {rows:List (List GV)} {kk:IntKind} {i:Nat} (hx:bf fr x=.sl k rows) (jT:bf fr lo=.v (.int kk i)) (hi:Nat.blt i rows.length=true):YG P (.slice t x (some lo) none none) fr Γ (.sl k (rows.drop i)):=fun B K β w l hI hF=>by
 have hi:i < rows.length:=by simpa using hi
 have h:=hF.ev x;rw [hx] at h;have KN:=hF.ko jT;generalize hv:ev l x=v at h
 cases h with
 | sl0 a c=>simp at hi
 | sl b o c _ _ h hc =>
  refine ⟨.slice (some ⟨b,o+i * k,none⟩) (rows.length - i) (c - i),fun d ty pos af=>?_,?_⟩
  ·have qv:¬ (c=i):=by omega
   have hle:(i:Int)<=(rows.length:Int):=by omega
   simp [execOp,Instr.sliceAt,Instr.slice,Instr.sliceBounds,Instr.sliceBound,asIntOf,hv,KN,run_underlying hT.und,kz hT.siz,qv,Nat.le_of_lt hi,rT]
  ·have:=Rel.sl (K:=K) (β:=β) b (o+i * k) (c - i) k (rows.drop i) (fun j r hr=>?_) zfS
   ·rw [kA] at this;exact this
   ·rw [List.getElem?_drop] at hr;refine ⟨(h (i+j) r hr).1,fun q g hg=>?_⟩;have:=(h (i+j) r hr).2 q g hg;rw [Nat.add_mul] at this;rw [show o+i * k+j * k+q=o+(i * k+j * k)+q by omega];exact this
theorem YG.gH {x lo:Operand} {t e:TypeId} {k:Nat} [hT:oK P t e k] {rows:List (List GV)} {kk:IntKind} {n:Int} (i:Nat) (hx:bf fr x=.sl k rows) (jT:bf fr lo=.v (.int kk n)) (hn:n=(i:Int)) (hi:Nat.blt i rows.length=true):YG P (.slice t x (some lo) none none) fr Γ (.sl k (rows.drop i)):=by
 subst hn;exact YG.aal hx jT hi
end
def sy (a:Int):Int:=IntKind.i64.wrap a
def rU (a b:Int):Int:=IntKind.i64.wrap (((a % 18446744073709551616).toNat &&& (b % 18446744073709551616).toNat:Nat):Int)
def xg (a b:Int):Int:=IntKind.i64.wrap (((a % 18446744073709551616).toNat ^^^ (b % 18446744073709551616).toNat:Nat):Int)
theorem Ws (a:Int) : -9223372036854775808<=sy a/\sy a<=9223372036854775807:=by
 unfold sy;rw [IntKind.wrap_i64];omega
theorem BX (a b:Int) (hb:0<=b/\b<=9223372036854775807):0<=rU a b/\rU a b<=b:=by
 unfold rU
 have D:(b % 18446744073709551616).toNat=b.toNat:=by rw [Int.emod_eq_of_lt hb.1 G]
 have X:(a % 18446744073709551616).toNat &&& (b % 18446744073709551616).toNat<=b.toNat:=by rw [D];exact Nat.and_le_right
 rw [IntKind.wrap_i64];omega
theorem WG (a b:Int):(BitVec.ofInt 64 a &&& BitVec.ofInt 64 b).toNat=(a % 18446744073709551616).toNat &&& (b % 18446744073709551616).toNat:=by rw [BitVec.toNat_and,BitVec.toNat_ofInt,BitVec.toNat_ofInt];rfl
theorem WH (a b:Int):(BitVec.ofInt 64 a ^^^ BitVec.ofInt 64 b).toNat=(a % 18446744073709551616).toNat ^^^ (b % 18446744073709551616).toNat:=by rw [BitVec.toNat_xor,BitVec.toNat_ofInt,BitVec.toNat_ofInt];rfl
section
variable {P:Program} {fr:List GV} {Γ:List Ob} {x y:Operand} {t t':TypeId} {a b:Int}
theorem YG.WA (hx:bf fr x=.v (ii a)) (hy:bf fr y=.v (ii b)):YG P (.binOp .add t x y t') fr Γ (.v (ii (sy (a+b)))) :=
 YG.v2 hx hy fun l w h k d ty pos af=>by simp [execOp,eqGuard,h,k,binOp,Op.intArith,sy]
theorem YG.Yq (hx:bf fr x=.v (ii a)) (hy:bf fr y=.v (ii b)):YG P (.binOp .mul t x y t') fr Γ (.v (ii (sy (a * b)))) :=
 YG.v2 hx hy fun l w h k d ty pos af=>by simp [execOp,eqGuard,h,k,binOp,Op.intArith,sy]
theorem YG.L9 (hx:bf fr x=.v (ii a)) (hy:bf fr y=.v (ii b)):YG P (.binOp .and t x y t') fr Γ (.v (ii (rU a b))) :=
 YG.v2 hx hy fun l w h k d ty pos af=>by
  simp [execOp,eqGuard,h,k,binOp,Op.intBits,rU,IntKind.bits];exact congrArg (fun n:Nat=>IntKind.i64.wrap (n:Int)) (WG a b)
theorem YG.Za (hx:bf fr x=.v (ii a)) (hy:bf fr y=.v (ii b)):YG P (.binOp .xor t x y t') fr Γ (.v (ii (xg a b))) :=
 YG.v2 hx hy fun l w h k d ty pos af=>by
  simp [execOp,eqGuard,h,k,binOp,Op.intBits,xg,IntKind.bits];exact congrArg (fun n:Nat=>IntKind.i64.wrap (n:Int)) (WH a b)
theorem YG.Nt {kk:IntKind} {n:Nat} (hx:bf fr x=.v (ii a)) (hy:bf fr y=.v (.int kk (n:Int))):YG P (.binOp .shr t x y t') fr Γ (.v (ii (a.fdiv (2 ^ min n 64)))) :=
 YG.v2 hx hy fun l w h k d ty pos af=>by
  have:¬ ((n:Int) < 0):=by omega
  simp [execOp,eqGuard,h,k,binOp,Op.shift,this,IntKind.bits]
end
end Go.Xg
set_option maxHeartbeats 4000000
namespace Go.Xg
open Go.RowKit Go.Xw Go.Proofs Tryz
open GV (U)
structure dj where
 i:Nat
 h:Int
abbrev w5 (code:ah) (c:dj):List GV:=[.sl 1 (bS code),.v (ii (c.i:Nat)),.v (ii c.h)]
def yB (c:dj):Int:=sy (sy (c.h * 6364136223846793005)+1442695040888963407)
def Ew (h:Int):Int:=rU (xg (h.fdiv (2 ^ min 33 64)) (h.fdiv (2 ^ min 45 64))) 255
def mi (code:ah) (c:dj):Int × dj:=match code[c.i]? with
 | some b=>(rU (Ew (yB c)+((b.toNat:Nat):Int)) 255,⟨c.i+1,yB c⟩)
 | none=>(Ew (yB c),⟨c.i,yB c⟩)
def aY (code:ah) (n:Int) (c:dj):Int × dj :=
 if n<=0 then (0,c) else if n<=256 then ((mi code c).1 % n,(mi code c).2) else
  let a:=mi code c
  let b:=mi code a.2
  let d:=mi code b.2
  let e:=mi code d.2
  ((a.1 * 16777216+b.1 * 65536+d.1 * 256+e.1) % n,e.2)
theorem Ib (h:Int):0<=Ew h/\Ew h<=255:=BX _ _ ⟨by omega,by omega⟩
theorem wh (code:ah) (c:dj):0<=(mi code c).1/\(mi code c).1<=255:=by
 unfold mi;split
 ·exact BX _ _ ⟨by omega,by omega⟩
 ·exact Ib _
theorem rB {code:ah} {c:dj} (h:c.i<=code.length):(mi code c).2.i<=code.length:=by
 unfold mi;split
 ·rename_i hb;exact (bu hb).1
 ·exact h
theorem cD {code:ah} {c:dj} (n:Int) (h:c.i<=code.length):(aY code n c).2.i<=code.length:=by
 unfold aY;split
 ·exact h
 split
 ·exact rB h
 ·exact rB (rB (rB (rB h)))
theorem cI (code:ah) {n:Int} (c:dj) (h:0 < n):0<=(aY code n c).1/\(aY code n c).1 < n:=by
 unfold aY;rw [ab G];split
 ·exact ⟨Int.emod_nonneg _ G,Int.emod_lt_of_pos _ h⟩
 ·exact ⟨Int.emod_nonneg _ G,Int.emod_lt_of_pos _ h⟩
theorem J9 {s:ah} {i:Nat} {b:UInt8} (h:s[i]?=some b):(bS s)[i]?=some [.v (.int .u8 (b.toNat:Nat))]:=by simp [bS,h]
theorem zE (s:ah):(bS s).length=s.length:=by simp [bS]
attribute [local irreducible] GW GL GO YG GC GA bg bj rU xg sy
theorem wE (code:ah) (c:dj) (hl:code.length<=1099511627776) (hc:c.i<=code.length) :
  GF prog 134 [.loc 0 0] [.box 103 (w5 code c)] (.v (ii (mi code c).1)) [.box 103 (w5 code (mi code c).2)]:=by
 have hm:=Ib (yB c);have kE:=zE code;unfold mi
 cases hb:code[c.i]? with
 | some b =>
  have au:=(bu hb).1;have hr:=J9 hb;have hbt:b.toNat < 256:=b.toNat_lt
  have hd:decide ((c.i:Int) < ((bS code).length:Int))=true:=by rw [kE];simpa using au
  simp only;unfold w5;simp only;unfold Ew yB at *;refine ai func134 ntmps134 ?_;refine zc4 ?_;refine OP rfl (fun Γ=>YG.Nt (n:=33) rfl rfl) ?_;refine mj ?_;refine ak ?_;refine OP rfl (fun Γ=>YG.Nt (n:=45) rfl rfl) ?_;refine mj ?_;refine OP rfl (fun Γ=>YG.Za rfl rfl) ?_;refine mj ?_;refine OP rfl (fun Γ=>YG.L9 rfl rfl) ?_;refine mj ?_;refine bq ?_;refine aM (ay 0 10 .nil) ?_;refine bq ?_;refine aM (ay 0 15 .nil) ?_;refine ak ?_;refine OP rfl (fun Γ=>YG.L9 rfl rfl) ?_;refine mj ?_;exact zbJ
 | none =>
  have kF:=oH hb
  have hd:decide ((c.i:Int) < ((bS code).length:Int))=false:=by rw [kE];simpa using kF
  simp only;unfold w5;simp only;unfold Ew yB at *;refine ai func134 ntmps134 ?_;refine zc4 ?_;refine OP rfl (fun Γ=>YG.Nt (n:=33) rfl rfl) ?_;refine mj ?_;refine ak ?_;refine OP rfl (fun Γ=>YG.Nt (n:=45) rfl rfl) ?_;refine mj ?_;refine OP rfl (fun Γ=>YG.Za rfl rfl) ?_;refine mj ?_;refine OP rfl (fun Γ=>YG.L9 rfl rfl) ?_;refine mj ?_;refine bq ?_;refine aM (ay 0 10 .nil) ?_;exact zbJ
theorem db (code:ah) (n:Int) (c:dj) (hl:code.length<=1099511627776) (hc:c.i<=code.length) :
  GF prog 77 [.loc 0 0,.v (ii n)] [.box 103 (w5 code c)] (.v (ii (aY code n c).1)) [.box 103 (w5 code (aY code n c).2)]:=by
 unfold aY;have D:=wE code c hl hc;have r1:=wh code c;have i1:=rB hc;generalize mi code c=a at *;obtain ⟨x,c1⟩:=a;simp only at D r1 i1 |-
 by_cases vu:n<=0
 ·have hd:decide (n<=(0:Int))=true:=by simpa using vu
  rw [ae vu];refine ai func77 ntmps77 ?_;exact al
 ·have hd:decide (n<=(0:Int))=false:=by simpa using vu
  rw [ab vu]
  by_cases xH:n<=256
  ·have Hy:decide (n<=(256:Int))=true:=by simpa using xH
   rw [ae xH];refine ai func77 ntmps77 ?_;refine V [0] D ?_;exact al
  ·have Hy:decide (n<=(256:Int))=false:=by simpa using xH
   rw [ab xH];have X:=wE code c1 hl i1;have r2:=wh code c1;have i2:=rB i1;generalize mi code c1=a at *;obtain ⟨y,c2⟩:=a;simp only at X r2 i2 |-;have h3:=wE code c2 hl i2;have r3:=wh code c2;have i3:=rB i2;generalize mi code c2=a at *;obtain ⟨z,c3⟩:=a;simp only at h3 r3 i3 |-;have h4:=wE code c3 hl i3;have r4:=wh code c3;generalize mi code c3=a at *;obtain ⟨w,c4⟩:=a;simp only at h4 r4 |-;refine ai func77 ntmps77 ?_;refine V [0] D ?_;refine V [0] X ?_;refine V [0] h3 ?_;refine V [0] h4 ?_;exact al
theorem Sh (code:ah) (hl:code.length<=1099511627776) :
  GC prog 40 [.sl 1 (bS code)] [] fun g Δ=>∃ h,g=.loc 0 0/\Δ=[.box 103 (w5 code ⟨0,h⟩)]:=by
 have kE:=zE code;refine ai func40 ntmps40 ?_;refine GW.loop (fun x:Nat=>code.length - x) (fun i fr Γ=>∃ h:Int,fr=[.sl 1 (bS code),U,U,.v (ii h),.v (ii (i:Nat)),U,U,U,U,U,U,U,U,U,U,U,U,U,U,U,U,U,U,U,U,U,U,U,U,U,U,U]/\Γ=[]/\i<=code.length/\0<=h/\h<=4398046511104) 0 ?_ ?_
 ·exact ⟨_,_,Wk.aJ ar,_,rfl,rfl,aX _,by omega,by omega⟩
 ·rintro i _ _ ⟨h,rfl,rfl,hi,h0,D⟩
  rcases Nat.lt_or_ge i code.length with au | kF
  ·have hd:decide ((i:Int) < ((bS code).length:Int))=true:=by rw [kE];simpa using au
   by_cases h4:i < 4000
   ·have hd4:decide ((i:Int) < (4000:Int))=true:=by simpa using by omega
    have hr:=J9 (ct au);generalize code[i]=b at *;have hbt:b.toNat < 256:=b.toNat_lt;refine I ?_;refine GL.q (YG.L9 rfl rfl) ?_;refine zaS ?_
    have KP:=fun a=>BX a 1073741823 ⟨by omega,by omega⟩
    exact ⟨i+1,⟨_,_,Wk.aJ ar,_,rfl,rfl,au,(KP _).1,by have:=(KP (h * 163+((b.toNat:Nat):Int)+7)).2;omega⟩,by omega⟩
   ·have hd4:decide ((i:Int) < (4000:Int))=false:=by simpa using by omega
    exact zdd
  ·have hd:decide ((i:Int) < ((bS code).length:Int))=false:=by rw [kE];simpa using kF
   exact zdd
def uy (code:ah) (c:dj):Int × dj :=
 let k:=aY code 11 c
 if k.1 < 4 then ((aY code 24 k.2).1 - 4,(aY code 24 k.2).2)
 else if k.1=4 then (2147483646+(aY code 3 k.2).1,(aY code 3 k.2).2)
 else if k.1=5 then (-2147483649+(aY code 3 k.2).1,(aY code 3 k.2).2)
 else if k.1=6 then (9223372036854775807 - (aY code 2 k.2).1,(aY code 2 k.2).2)
 else if k.1=7 then (-9223372036854775807 - (aY code 2 k.2).1,(aY code 2 k.2).2)
 else if k.1=8 then (sy (1 * 2 ^ (aY code 40 k.2).1.toNat),(aY code 40 k.2).2)
 else if k.1=9 then
  let a:=aY code 1000000 k.2
  let b:=aY code 1000000 a.2
  (a.1 * b.1,b.2)
 else aY code 2000000 k.2
theorem DA {code:ah} {c:dj} (h:c.i<=code.length):(uy code c).2.i<=code.length:=by
 unfold uy
 have D:=fun n=>cD (code:=code) (c:=(aY code 11 c).2) n (cD 11 h)
 simp only
 repeat (split;exact D _)
 split
 ·exact cD _ (D _)
 ·exact D _
theorem yZ (code:ah) (c:dj) : -9223372036854775808<=(uy code c).1/\(uy code c).1<=9223372036854775807:=by
 unfold uy
 have D:=fun n (h:(0:Int) < n)=>cI code (aY code 11 c).2 h
 simp only;split
 ·have:=D 24 G;exact zcZ
 split
 ·have:=D 3 G;exact zcZ
 split
 ·have:=D 3 G;exact zcZ
 split
 ·have:=D 2 G;exact zcZ
 split
 ·have:=D 2 G;exact zcZ
 split
 ·exact Ws _
 split
 ·have X:=D 1000000 G;have h3:=cI code (aY code 1000000 (aY code 11 c).2).2 (n:=1000000) G;have h4:=Int.mul_nonneg X.1 h3.1;have h5:=Int.mul_le_mul (Int.le_of_lt X.2) (Int.le_of_lt h3.2) h3.1 G;exact zcZ
 ·have:=D 2000000 G;omega
section
variable {P:Program} {fr:List GV} {Γ:List Ob} {x y:Operand} {t t':TypeId} {a:Int}
theorem YG.abY {kk:IntKind} {n:Nat} (hx:bf fr x=.v (ii a)) (hy:bf fr y=.v (.int kk (n:Int))) (hn:n<=63):YG P (.binOp .shl t x y t') fr Γ (.v (ii (sy (a * 2 ^ n)))) :=
 YG.v2 hx hy fun l w h k d ty pos af=>by
  have D:¬ ((n:Int) < 0):=by omega
  have X:min n 64=n:=by omega
  have h3:n < 64:=by omega
  simp [execOp,eqGuard,h,k,binOp,Op.shift,D,X,h3,IntKind.bits,sy]
end
theorem Si (code:ah) (c:dj) (hl:code.length<=1099511627776) (hc:c.i<=code.length) :
  GF prog 78 [.loc 0 0] [.box 103 (w5 code c)] (.v (ii (uy code c).1)) [.box 103 (w5 code (uy code c).2)]:=by
 unfold uy;have D:=db code 11 c hl hc;have r1:=cI code c (n:=11) G;have i1:=cD (code:=code) 11 hc;generalize aY code 11 c=a at *;obtain ⟨k,c1⟩:=a;simp only at D r1 i1 |-
 have X:=fun n=>db code n c1 hl i1
 have r2:=fun n (h:(0:Int) < n)=>cI code c1 h
 have i2:=fun n=>cD (code:=code) n i1
 by_cases hk:k < 4
 ·have hd:decide (k < (4:Int))=true:=by simpa using hk
  rw [ae hk];have h3:=X 24;have r3:=r2 24 G;exact zax
 ·have hd:decide (k < (4:Int))=false:=by simpa using hk
  rw [ab hk];obtain ⟨m,rfl⟩:∃ m:Nat,k=(m:Int):=⟨k.toNat,by omega⟩
  have hm:m=4\/m=5\/m=6\/m=7\/m=8\/m=9\/m=10:=by omega
  rcases hm with rfl | rfl | rfl | rfl | rfl | rfl | rfl
  ·have h3:=X 3;have r3:=r2 3 G;rw [ae aC];exact zax
  ·have h3:=X 3;have r3:=r2 3 G;rw [ab aC,ae aC];exact zax
  ·have h3:=X 2;have r3:=r2 2 G;rw [ab aC,ab aC,ae aC];exact zax
  ·have h3:=X 2;have r3:=r2 2 G;rw [ab aC,ab aC,ab aC,ae aC];exact zax
  ·have h3:=X 40;have r3:=r2 40 G;rw [ab aC,ab aC,ab aC,ab aC,ae aC];generalize aY code 40 c1=a at *;obtain ⟨s,c2⟩:=a;simp only at h3 r3 |-;obtain ⟨n,rfl⟩:∃ n:Nat,s=(n:Int):=⟨s.toNat,by omega⟩;rw [jR];refine ai func78 ntmps78 ?_;refine V [0] D ?_;refine V [0] h3 ?_;refine GL.q (YG.abY rfl rfl G) ?_;refine cM ?_;exact aw
  ·have h3:=X 1000000;have r3:=r2 1000000 G;have i3:=i2 1000000;rw [ab aC,ab aC,ab aC,ab aC,ab aC,ae aC];generalize aY code 1000000 c1=a at *;obtain ⟨u,c2⟩:=a;simp only at h3 r3 i3 |-;have h4:=db code 1000000 c2 hl i3;have r4:=cI code c2 (n:=1000000) G;generalize aY code 1000000 c2=a at *;obtain ⟨v,c3⟩:=a;simp only at h4 r4 |-;have h5:=Int.mul_nonneg r3.1 r4.1;have h6:=Int.mul_le_mul (Int.le_of_lt r3.2) (Int.le_of_lt r4.2) r4.1 G;refine ai func78 ntmps78 ?_;refine V [0] D ?_;refine V [0] h3 ?_;refine V [0] h4 ?_;exact al
  ·have h3:=X 2000000;rw [ab aC,ab aC,ab aC,ab aC,ab aC,ab aC];exact zax
end Go.Xg
namespace Go.Xg
open Go.RowKit Go.Xw
theorem FA (a:List GV):∀ (gs b:List GV) (o:Nat),ra (a++b) (a.length+o) gs=a++ra b o gs
 | [],b,o=>rfl
 | g::gs,b,o=>by rw [ra,ra,B9,iy,FA a gs]
theorem CZ:∀ (gs a b:List GV),a.length=gs.length->ra (a++b) 0 gs=gs++b
 | [],[],b,_=>rfl
 | [],x::a,b,h=>by simp at h
 | g::gs,[],b,h=>by simp at h
 | g::gs,x::a,b,h=>by
  rw [ra,cons_append,bQ];have:=FA [g] gs (a++b) 0;simp only [length_cons,length_nil,cons_append,List.nil_append,ed,Nat.add_zero] at this |-;rw [this,CZ gs a b zfx]
section
variable {P:Program} {m:Nat} {ops:Array Oper} {Q:dW} {rest:List Oper} {fr:List GV} {Γ:List Ob} {d:Option Tmp} {ty:TypeId} {pos:String} {af:Array Edge}
end
def Ob.uH:Ob->Bool
 | .vech _ _ _ _=>true
 | _=>false
def iX (β:Bt) (aS:List Nat):Bt:=fun j=>match aS[j]? with
 | some i=>β i
 | none=>.no
section
variable {B:Bs} {K:Fz} {β:Bt} {Γ:List Ob} {w:World}
theorem bs.rN {K:Fz} {β bR:Bt} {vs:List Value} {gs:List GV} (h:bs K β vs gs) (hp:∀ g∈gs,g.pc=true):bs K bR vs gs:=⟨h.1,fun i v g D X=>(h.2 i v g D X).pc (hp g (br X))⟩
theorem jx.flat {k:Nat} {rows:List (List GV)} (h:jx k rows):∀ g∈rows.flatten,g.pc=true:=fun g hg=>by
 obtain ⟨r,D,X⟩:=List.mem_flatten.1 hg;exact (h r D).2 g X
theorem Inv.pick (h:Inv B K β Γ w) (hm:B.m=0) {aS:List Nat} {Δ:List Ob} (hl:Δ.length=aS.length) (hn:aS.Nodup)
  (hx:∀ (j:Nat) x,Δ[j]?=some x->x.uH=true/\∀ i,aS[j]?=some i->Γ[i]?=some x):Inv B K (iX β aS) Δ w:=by
 have hb:∀ i b,(iX β aS i).has b->∃ q,aS[i]?=some q/\(β q).has b:=fun i b hi=>by
  unfold iX at hi
  cases hs:aS[i]? with
  | none=>rw [hs] at hi;cases hi
  | some q=>rw [hs] at hi;exact ⟨q,rfl,hi⟩
 refine ⟨h.ext,h.kle,fun i=>by rw [h.loc i G];trivial,h.loc,h.fz,fun i x hi=>?_,fun i hi=>?_,fun i j b hi hj=>?_,fun i b hi=>?_,h.kn,h.tab.step (S:=gL) (Ext.refl w) (fun _ h=>h.elim) (cW.refl K) (fun i b2 X=>?_)⟩
 ·obtain ⟨D,X⟩:=hx i x hi;have au:=(bu hi).1;have hs:aS[i]?=some (aS[i]'G):=ct _
  cases x with
  | vech E k rows v =>
   obtain ⟨xs,e1,e2,e3,e4,e5⟩:=h.ob _ _ (X _ hs);refine ⟨xs,?_,e2,e3.rN e4.flat,e4,e5⟩;show iX β aS i=_;unfold iX;rw [hs];exact e1
  | _=>cases D
 ·unfold iX;rw [List.getElem?_eq_none G]
 ·exact zbd
 ·obtain ⟨q,D,X⟩:=hb i b hi;exact h.own q b X
 ·obtain ⟨q,h3,h4⟩:=hb i b2 X;exact .inl ⟨q,h4⟩
theorem Inv.view {i E k:Nat} {rows:List (List GV)} {x:Value} (h:Inv B K β Γ w) (hi:Γ[i]?=some (.vech E k rows x)):∃ K1,cW K K1/\nE K1 w/\lP K1 (fun _=>.no) w/\Rel K1 (fun _=>.no) x (.sl k rows):=by
 obtain ⟨K',hK,hr,bA⟩:=h.rh hi;exact ⟨K',hK,bA.fz,⟨bA.tab.le,bA.tab.pow,bA.tab.spc,fun i b h=>by cases h⟩,hr.pc rfl⟩
theorem Inv.new (h:nE K w) (ht:lP K (fun _=>.no) w):Inv ⟨w,gL,K,fun _=>.no,0⟩ K (fun _=>.no) [] w :=
 ⟨Ext.refl w,cW.refl _,dI.refl _,fun _ _=>rfl,h,fun i x h=>by simp at h,fun _ _=>rfl,fun i j b h=>zfA,fun i b h=>zfA,fun b o g h=>.inl h,ht⟩
theorem Inv.Ns {i idx o j E k T k':Nat} {rows ks:List (List GV)} {x h:Value} {r:List GV} (hI:Inv B K β Γ w) (hi:Γ[i]?=some (.vech T k rows h)) (hr:rows[idx]?=some r) (ho:r[o]?=some (.v x)) (bT:i≠j) (hj:Γ[j]?=some (.vech E k' ks x)) :
  ∃ K',cW K K'/\Inv B K' β (oset (oset Γ j (.vec E k' ks.length ks)) i (.vech T k (gF rows idx o (.sl k' ks)) h)) w:=by
 obtain ⟨K',hK,jq,bA⟩:=hI.rh hj;obtain ⟨xs,D,X,h3,h4,h5⟩:=bA.ob i (.vech T k rows h) zfJ;have au:=(bu hr).1
 have Ac:o < k:=by rw [<-(h4 r (br hr)).1];exact (bu ho).1
 exact ⟨K',hK,bA.swap ⟨xs,by rw [eo];exact D,by rw [eo];exact X,by rw [wN Ac h4 au];exact bs.bQ jq h3 (vP h4 hr ho),Bc rfl h4,h5⟩⟩
theorem LB {rows:List (List GV)} {i o:Nat} {g:GV} {r:List GV} (hr:rows[i]?=some r):∀ q,(gF rows i o g)[q]?=if q=i then some (bQ r o g) else rows[q]?:=by
 induction rows generalizing i with
 | nil=>simp at hr
 | cons x rs ih =>
  intro q
  cases i with
  | zero =>
   cases hr
   cases q with
   | zero=>simp [gF]
   | succ q=>simp [gF]
  | succ i =>
   cases q with
   | zero=>simp [gF]
   | succ q =>
    have:=ih (by simpa using hr) q;simp only [gF,List.getElem?_cons_succ,this]
    by_cases h:q=i
    ·simp [h]
    ·simp [h]
theorem Inv.IB {T k o E k' jf N:Nat} {h:Value} {raw fin:Nat->List GV} {ks:Nat->List (List GV)} {hd:Nat->Value} {jp:Nat->Nat} (hI:Inv B K β Γ w) {GB:List (List GV)} (FG:Γ[jf]?=some (.vech T k GB h)) (h0:GB.length=N/\∀ i,i < N->GB[i]?=some (raw i))
  (abD:∀ i,i < N->(raw i)[o]?=some (.v (hd i))/\bQ (raw i) o (.sl k' (ks i))=fin i) (jN:∀ i,i < N->Γ[jp i]?=some (.vech E k' (ks i) (hd i))) (bT:∀ i,i < N->jp i≠jf) (HA:∀ i i',i < N->i' < N->jp i=jp i'->i=i') :
  ∃ K' aV rows,cW K K'/\Inv B K' β aV w/\aV[jf]?=some (.vech T k rows h)/\rows.length=N/\(∀ i,i < N->rows[i]?=some (fin i))/\∀ q,q≠jf->(∀ i,i < N->q≠jp i)->aV[q]?=Γ[q]?:=by
 have key:∀ n,n<=N->∃ K' aV rows,cW K K'/\Inv B K' β aV w/\aV[jf]?=some (.vech T k rows h)/\rows.length=N/\(∀ i,i < n->rows[i]?=some (fin i))/\(∀ i,n<=i->i < N->rows[i]?=some (raw i))/\(∀ i,n<=i->i < N->aV[jp i]?=some (.vech E k' (ks i) (hd i)))/\∀ q,q≠jf->(∀ i,i < N->q≠jp i)->aV[q]?=Γ[q]?:=by
  intro n
  induction n with
  | zero=>intro _;exact ⟨K,Γ,GB,cW.refl K,hI,FG,h0.1,fun i h=>by omega,fun i _ h=>h0.2 i h,fun i _ h=>jN i h,fun _ _ _=>rfl⟩
  | succ n ih =>
   intro hn;obtain ⟨K',aV,rows,a1,a2,a3,a4,a5,a6,a7,a8⟩:=ih G;have hr:=a6 n (aH _) G;obtain ⟨c1,c2⟩:=abD n G;obtain ⟨K2,b1,b2⟩:=a2.Ns a3 hr c1 (fun e=>bT n G e.symm) (a7 n (aH _) G);have au:=(bu a3).1;refine ⟨K2,_,gF rows n o (.sl k' (ks n)),a1.trans b1,b2,?_,by rw [eo];exact a4,fun i hi=>?_,fun i hi Pj=>?_,fun i hi Pj=>?_,fun q hq hqj=>?_⟩
   ·rw [bK,bK,eG];simp [au]
   ·rw [LB hr,c2]
    by_cases e:i=n
    ·rw [ae e,e]
    ·rw [ab e];exact a5 i G
   ·rw [LB hr,ab G];exact a6 i G Pj
   ·rw [bK,bK,eG,ab (fun e=>bT i Pj e.symm),eG,ab (fun e=>by have:=HA n i G Pj e;omega)];exact a7 i G Pj
   ·rw [bK,bK,eG,ab (fun e=>hq e.symm),eG,ab (fun e=>hqj n G e.symm)];exact a8 q hq hqj
 obtain ⟨K',aV,rows,a1,a2,a3,a4,a5,_,_,a8⟩:=key N (aH _);exact ⟨K',aV,rows,a1,a2,a3,a4,a5,a8⟩
end
section
variable {P:Program} {fn:Func} {R:GV->List Ob->Prop} {fr:List GV} {Γ:List Ob} {e:Exit}
theorem Zx {t:Tmp} {x:Value} (aS:List Nat) (Δ:List Ob) (hr:fn.results=#[.tmp t]) (he:e=.normal\/e=.ret) (hg:cP fr t=.v x) (hl:Δ.length=aS.length) (hn:aS.Nodup)
  (hx:∀ (j:Nat) x,Δ[j]?=some x->x.uH=true/\∀ i,aS[j]?=some i->Γ[i]?=some x) (h:R (.v x) Δ):vl P fn 0 R e fr Γ :=
 ⟨he,fun B K β w l hB hI hF=>⟨nth l t,K,iX β aS,.v x,Δ,by rw [results_tmp hr,jW],hI.pick hB hl hn hx,by have:=hF.nth t;rw [hg] at this;rw [Rel.eE this];exact .v _,h⟩⟩
end
section
variable {P:Program} {fn:Func} {R:GV->List Ob->Prop} {fr:List GV} {Γ:List Ob} {e:Exit}
theorem Oz {Γ:List Ob} {n:Nat} (h:∀ x∈Γ.drop n,x.uH=true):(Γ.drop n).length=((List.range (Γ.length - n)).map (·+n)).length/\((List.range (Γ.length - n)).map (·+n)).Nodup /\
  ∀ (j:Nat) x,(Γ.drop n)[j]?=some x->x.uH=true/\∀ i,((List.range (Γ.length - n)).map (·+n))[j]?=some i->Γ[i]?=some x:=by
 refine ⟨by simp,?_,fun j x hj=>⟨h x (br hj),fun i hi=>?_⟩⟩
 ·unfold List.Nodup;rw [List.pairwise_map]
  exact List.nodup_range.imp fun bT he=>bT G
 ·have au:=(bu hj).1;rw [kA] at au;rw [bp,List.getElem?_range au] at hi;cases hi;rw [List.getElem?_drop] at hj;show Γ[j+n]?=some x;rw [Nat.add_comm];exact hj
theorem CR {t:Tmp} {x:Value} (n:Nat) (hr:fn.results=#[.tmp t]) (he:e=.normal\/e=.ret) (hg:cP fr t=.v x) (ha:∀ x∈Γ.drop n,x.uH=true) (h:R (.v x) (Γ.drop n)):vl P fn 0 R e fr Γ :=
 have hd:=Oz ha
 Zx _ (Γ.drop n) hr he hg hd.1 hd.2.1 hd.2.2 h
end
section
variable {P:Program} {m:Nat} {Q:dW} {fr:List GV} {Γ:List Ob} {ops:Array Oper} {rest:List Oper} {d:Option Tmp} {op:Op} {ty:TypeId} {pos:String} {af:Array Edge}
theorem GL.Me {t:TypeId} {x:Operand} {cs:List GV} (hx:nM (bf fr x)=some cs) (hp:rN cs=true) (h:GL P m ops Q rest (bM fr d (.box cs 0)) Γ):GL P m ops Q (⟨d,.box t x,ty,pos,af,none⟩::rest) fr Γ:=fun B K β w l hm hI hF=>by
 obtain ⟨vs,D,X⟩:=(hF.ev x).cells hx
 refine WL.box rfl fun b w' hn=>?_
 rw [D] at hn;obtain ⟨hle,bA⟩:=hI.wo hn X (nS hp);exact h B _ β w' _ hm bA ((hF.mono hle (dI.refl β)).put d (Rel.box (K:=mZ K b cs) (β:=β) b 0 0 cs (fun j g hg=>by rw [ed];exact xk hg)))
theorem GL.borrow {f:FuncId} [hf:aP P f] {args:List Operand} {qz:Array TypeId} {gs:List GV} {v:Value} (hc:GF P f gs [] (.v v) [])
  (hv:∀ B K β w l,Inv B K β Γ w->FR K β fr l->∃ K1,nE K1 w/\lP K1 (fun _=>.no) w/\bs K1 (fun _=>.no) (args.map (ev l)) gs)
  (h:GL P m ops Q rest (bM fr d (.v v)) Γ):GL P m ops Q (⟨d,.call ⟨.value (.func f),args.toArray,qz⟩,ty,pos,af,none⟩::rest) fr Γ:=fun B K β w l hm hI hF=>by
 obtain ⟨K1,D,X,h3⟩:=hv B K β w l hI hF
 have vy:(execOp (ev l) ⟨d,.call ⟨.value (.func f),args.toArray,qz⟩,ty,pos,af,none⟩).run P w=.ok (.enter f (args.map (ev l)).toArray) w:=by simp [execOp,resolve,ev,Deferred.ofValue,invoke,qa]
 refine WL.calls vy (hc _ K1 _ w _ rfl (Inv.new D X) h3) ?_;rintro x w' ⟨K',bR,g,aV,bA,jq,rfl,rfl⟩;exact h B K β w' _ hm (hI.same bA.ext) (hF.put d (by rw [Rel.eE jq];exact .v _))
theorem vR {P:Program} {w:World} {t e ty:TypeId} {i:TypeInfo} (hu:P.underlying t=some (.slice e)) (hi:P.info? e=some i) (a b:Option Addr) (n c d:Nat) (hc:n<=c) :
  (Builtin.append_ #[t,t] ty #[.slice a n c,.slice b 0 d]).run P w=.ok (.slice a n c) w:=by
 cases a <;> cases b <;> simp [Builtin.append_,run_underlying hu,sizeOf,typeInfo,hi,Builtin.lenOf,hc,Builtin.firstCells,loadCells,loadCellsFrom,storeCells]
theorem GL.Zg {s x:Operand} {t e k kD:Nat} [hT:qH P t e k kD] (i:Nat) {dt:Tmp} {v:Value} {rows:List (List GV)} (hx:bf fr x=.sl k []) (hs:bf fr s=.v v) (bD:Γ[i]?=some (.vech e k rows v))
  (h:GL P m ops Q rest (bM fr (some dt) (.v v)) Γ):GL P m ops Q (⟨some dt,.call ⟨.builtin .append,#[s,x],#[t,t]⟩,ty,pos,af,none⟩::rest) fr Γ:=fun B K β w l hm hI hF=>by
 obtain ⟨hu,⟨j,z,hi,_⟩,_⟩:=hT.parts;obtain ⟨xs,o1,o2,_⟩:=hI.ob i _ bD;have sK:ev l s=v:=hF.ko hs;have rH:=hF.ev x;rw [hx] at rH;generalize vD:ev l x=vx at rH
 obtain ⟨b,d',rfl⟩:∃ b d',vx=.slice b 0 d':=by
  cases rH with
  | sl0 a c k=>exact ⟨a,c,rfl⟩
  | sl b o c _ _ hr _=>exact zaD
 obtain ⟨a,n,c,rfl,hc⟩:∃ a n c,v=.slice a n c/\n<=c:=by
  rcases o2.2 with ⟨e1,e2⟩ | ⟨g,cap,cur,e1,_,_,e2,_⟩
  ·exact ⟨_,_,_,e1,aH _⟩
  ·exact ⟨_,_,_,e1,e2⟩
 have pn:=vR (P:=P) (w:=w) (ty:=ty) hu hi a b n c d' hc;exact WL.val (v:=.slice a n c) (w':=w) zfT (h B K β w _ hm hI (hF.put _ (.v _)))
theorem GL.Zk {s x:Operand} {t e k kD:Nat} [hT:qH P t e k kD] {i n fz:Nat} {dt:Tmp} {rows:List (List GV)} (hx:bf fr x=.sl k []) (hs:bf fr s=.vec i n) (bD:Γ[i]?=some (.vec e k fz rows)) (hn:rows.length=n)
  (h:GL P m ops Q rest (bM fr (some dt) (.vec i n)) Γ):GL P m ops Q (⟨some dt,.call ⟨.builtin .append,#[s,x],#[t,t]⟩,ty,pos,af,none⟩::rest) fr Γ:=fun B K β w l hm hI hF=>by
 subst hn;obtain ⟨hu,⟨j,z,hi,_⟩,_⟩:=hT.parts;obtain ⟨h0,xs,o1,o2,_⟩:=hI.ob i _ bD;have vB:=hF.ev s;rw [hs] at vB
 have sK:ev l s=h0:=by
  generalize hv:ev l s=v at vB
  cases vB with
  | vec _ _ a c hh =>
   obtain ⟨h',m',e1,e2,e3⟩:=hh;rw [o1] at e1;cases e1;exact e3 rfl
 have rH:=hF.ev x;rw [hx] at rH;generalize vD:ev l x=vx at rH
 obtain ⟨b,d',rfl⟩:∃ b d',vx=.slice b 0 d':=by
  cases rH with
  | sl0 a c k=>exact ⟨a,c,rfl⟩
  | sl b o c _ _ hr _=>exact zaD
 obtain ⟨a,n,c,rfl,hc⟩:∃ a n c,h0=.slice a n c/\n<=c:=by
  rcases o2.2 with ⟨e1,e2⟩ | ⟨g,cap,cur,e1,_,_,e2,_⟩
  ·exact ⟨_,_,_,e1,aH _⟩
  ·exact ⟨_,_,_,e1,e2⟩
 have pn:=vR (P:=P) (w:=w) (ty:=ty) hu hi a b n c d' hc;exact WL.val (v:=.slice a n c) (w':=w) zfT (h B K β w _ hm hI (hF.put _ (by have:=hF.ev s;rw [hs,sK] at this;exact this)))
theorem F6 {Γ:List Ob} {i:Nat} {x:Ob} (h:Γ[i]?=some x):oset Γ i x=Γ:=by
 rw [bK];apply List.ext_getElem?;intro j;rw [eG]
 by_cases e:i=j
 ·subst e;have:=(bu h).1;rw [ae rfl,ae this,h]
 ·rw [ab e]
theorem GL.Gt {s x:Operand} {t e k kD:Nat} [hT:qH P t e k kD] (i:Nat) {n:Nat} {dt:Tmp} {a0:Option Addr} {c0:Nat} {rows news:List (List GV)} (hx:bf fr x=.sl k news) (hs:bf fr s=.v (.slice a0 n c0)) (bD:Γ[i]?=some (.vech e k rows (.slice a0 n c0))) (hn:rows.length=n) (D:oB news=true)
  (hb:n+news.length<=9223372036854775807/\(n+news.length) * kD<=140737488355328)
  (h:∀ a c,GL P m ops Q rest (bM fr (some dt) (.v (.slice a (n+news.length) c))) (oset Γ i (.vech e k (rows++news) (.slice a (n+news.length) c)))) :
  GL P m ops Q (⟨some dt,.call ⟨.builtin .append,#[s,x],#[t,t]⟩,ty,pos,af,none⟩::rest) fr Γ:=by
 cases news with
 | nil =>
  have h0:=h a0 c0;rw [ef,show n+([]:List (List GV)).length=n from rfl,F6 bD] at h0;exact GL.Zg i hx hs bD h0
 | cons r rs=>exact GL.pk i hx hs bD hn D rfl hb h
theorem GL.Zj {s x:Operand} {t e k kD:Nat} [hT:qH P t e k kD] {i n fz:Nat} {dt:Tmp} {rows news:List (List GV)} (hx:bf fr x=.sl k news) (hs:bf fr s=.vec i n) (bD:Γ[i]?=some (.vec e k fz rows)) (hn:rows.length=n) (D:oB news=true)
  (hb:n+news.length<=9223372036854775807/\(n+news.length) * kD<=140737488355328)
  (h:GL P m ops Q rest (bM fr (some dt) (.vec i (n+news.length))) (oset Γ i (.vec e k fz (rows++news)))) :
  GL P m ops Q (⟨some dt,.call ⟨.builtin .append,#[s,x],#[t,t]⟩,ty,pos,af,none⟩::rest) fr Γ:=by
 cases news with
 | nil =>
  rw [ef,show n+([]:List (List GV)).length=n from rfl,F6 bD] at h;exact GL.Zk hx hs bD hn h
 | cons r rs=>exact GL.app hx hs bD hn D rfl hb h
theorem Qw:∀ (us vs:List Value),vs.length=us.length->nW vs 0 us=us:=by
 have key:∀ (us a vs:List Value),vs.length=us.length->nW (a++vs) a.length us=a++us:=by
  intro us
  induction us with
  | nil=>intro a vs h;rw [gx h];rfl
  | cons u us ih =>
   intro a vs h
   cases vs with
   | nil=>simp at h
   | cons v vs =>
    have hu:fT (a++v::vs) a.length u=(a++[u])++vs:=by
     clear ih h
     induction a with
     | nil=>rfl
     | cons x a ih=>rw [cons_append,length_cons,fT,ih];rfl
    have:=ih (a++[u]) vs zfx;rw [aO,List.length_singleton] at this;rw [nW,hu,this];simp
 intro us vs h;exact key us [] vs h
theorem GL.M4 {t:TypeId} {z:Value} {agg:Bool} {k:Nat} [hZ:qL P t z] [hT:Ty P t agg k] {dt ts:Tmp} {cs:List GV} {QM:TypeId} {Is:String} {Fh:Array Edge} {d2:Option Tmp} (X8:z.cells.size=k) (hy:nM (cP fr ts)=some cs) (bT:Nat.beq ts dt=false) (mu:ku fr dt=true) (hk:cs.length=k) (D:oA cs=true) (hp:rN cs=true)
  (h:GL P m ops Q rest (bM (bM fr (some dt) (.box cs 0)) d2 (.v undef)) Γ):GL P m ops Q (⟨some dt,.alloc t,ty,pos,af,none⟩::⟨d2,.store t (.tmp dt) (.tmp ts),QM,Is,Fh,none⟩::rest) fr Γ:=fun B K β w l hm hI hF=>by
 refine WL.alloc (z:=z) fun b w1 hn=>?_
 obtain ⟨us,oe,oU⟩:=(hF.nth ts).cells hy
 have Ce:ts≠dt:=by intro e;subst e;simp at bT
 have X6:ev (put l (some dt) (.pointer (some ⟨b,0,none⟩))) (.tmp ts)=nth l ts:=qk Ce _;have KU:ev (put l (some dt) (.pointer (some ⟨b,0,none⟩))) (.tmp dt)=.pointer (some ⟨b,0,none⟩):=uZ (oW hF mu) _
 have KS:us.length=k:=by rw [oU.1,hk]
 refine WL.st (t:=t) (k:=k) KU X6 hn.blk (by rw [oe];simpa using KS) G (by rw [oe];simpa using oU.oz D) fun w2 hs=>?_
 have iG:xd z.cells 0 us=us.toArray:=by
  have:=AA us z.cells.toList 0;rw [Qw us _ (by rw [Array.length_toList,X8,KS])] at this;exact zbT
 rw [oe,List.toList_toArray,iG] at hs;have abA:xi w w2 b (.cells us.toArray t):=⟨hn.fresh,by rw [hs.size];exact hn.size,hs.blk,hn.ext.step hs.ext fun j hj=>.inl (by subst hj;rw [hn.fresh];exact aH _)⟩;obtain ⟨hle,bA⟩:=hI.wo abA oU (nS hp);exact h B _ β w2 _ hm bA (((hF.mono hle (dI.refl β)).put (some dt) (Rel.box (K:=mZ K b cs) (β:=β) b 0 0 cs (fun j g hg=>by rw [ed];exact xk hg))).put d2 (.v _))
end
end Go.Xg
set_option maxHeartbeats 2000000
namespace Go.Xg
open Go.RowKit Go.Xw Go.Proofs
open Go.Xp (Nd)
open Go.Sp (Src)
attribute [local irreducible] GW GL GO YG GC GA bg bj
def bW (l:List ah):List (List GV):=l.map fun s=>[GV.v (sv s)]
def aU (l:List Int):List (List GV):=l.map fun i=>[GV.v (ii i)]
def Hd (n:Nat) (h:Value):Prop:=∃ a c,h=.slice a n c
def dL (x:Nd) (h:Value):List GV:=[.v (ii x.kind),.v (ii x.at_),.v (ii x.n),.v (sv x.s),.v h]
def jE (x:Nd) (h:Value):Ob:=.vech 3 1 (aU x.kids) h
theorem Jd {α:Type} {f:α->Value->Ob} (hf:∀ a h,(f a h).uH=true) {l:List α} {hs:List Value}:∀ x∈List.zipWith f l hs,x.uH=true:=fun x hx=>by
 obtain ⟨i,hi⟩:=List.getElem?_of_mem hx;rw [List.getElem?_zipWith] at hi;split at hi
 ·cases hi;exact hf _ _
 ·cases hi
end Go.Xg
