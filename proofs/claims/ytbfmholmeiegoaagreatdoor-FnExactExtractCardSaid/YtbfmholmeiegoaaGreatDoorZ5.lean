/- Part 5 of proofs that are told in their last texts. -/
import Derived.Test.YtbfmholmeiegoaaGreatDoorZ4
import Derived.IntWalk
import Derived.Laws.IdiomStrings
import Derived.Test.YtbfmholmeiegoaaGreatDoorProg
import Derived.KernelRfl
import Derived.Test.YtbfmholmeiegoaaGreatDoorZ1
import Derived.Test.YtbfmholmeiegoaaGreatDoorZ2
import Derived.Deep.Slices
import Derived.Deep.Fields
import Derived.ChangeSame
import Derived.Lib.SmallJoins
import Derived.SliceStrings
import Derived.ChangeSlices
import Derived.Lib.LaidU8
import Derived.Shelf.Vars
import Derived.Laws.Bits128
import Derived.Lib.AppendStr
import Derived.Laws.OwnMore
open List (cons_append ext_getElem flatten_cons getElem?_eq_getElem getElem?_map getElem_mem length_append length_cons length_map length_nil map_map mem_cons_self sum_cons toList_toArray)
set_option linter.unusedVariables false
set_option linter.unusedSimpArgs false
set_option maxRecDepth 100000
namespace Go.Xg
open Go.RowKit Go.Xw
section
variable {P:Program} {m:Nat} {Q:dG} {fr:List GV} {Γ:List Ob} {ops:Array Oper} {rest:List Oper} {d:Option Tmp} {op:Op} {ty:TypeId} {pos:String} {af:Array Edge}
theorem GW.join {c y:Code} (K:List GV->List Ob->Prop) (I:GW P m c (aW (Bi m K) Q) fr Γ) (M:∀ fr Γ,K fr Γ->GW P m y Q fr Γ):GW P m c (aW (GW P m y Q) Q) fr Γ:=by
 refine I.mono fun e fr Γ hq=>?_
 cases e with
 | normal=>obtain ⟨cy,aR,hw,hk⟩:=hq;exact GW.wk hw (M _ _ hk)
 | _=>exact hq
theorem YG.oy {x y:Operand} {t e:TypeId} {k:Nat} [hT:oP P t e k] {rows:List (List GV)} {kk:IntKind} {n:Int} {i:Nat} {r:List GV} (hx:be fr x=.sl k rows) (hy:be fr y=.v (.int kk n)) (hr:rows[i]?=some r) (hi:n=(i:Int)):YG P (.indexAddr t x y) fr Γ (.box r 0):=by
 subst hi;exact YG.yu hx hy hr
def kC:List (List GV)->Bool
 | []=>true
 | r::rs=>np r&&kC rs
theorem DF {rows:List (List GV)} (h:kC rows=true):np rows.flatten=true:=by
 induction rows with
 | nil=>rfl
 | cons r rs ih =>
  simp only [kC,aH] at h
  have abd:∀ (a b:List GV),np a=true->np b=true->np (a++b)=true:=by
   intro a
   induction a with
   | nil=>intro b _ hb;exact hb
   | cons x a z7 =>
    intro b ha hb;simp only [np,aH] at ha;simp only [cons_append,np,aH];exact ⟨ha.1,z7 b ha.2 hb⟩
  rw [flatten_cons];exact abd _ _ h.1 (ih h.2)
theorem GL.app {s x:Operand} {t e k iP:Nat} [hT:qd P t e k iP] {i n fz:Nat} {rows news:List (List GV)} (hx:be fr x=.sl k news) (hs:be fr s=.vec i n) (bJ:Γ[i]?=some (.vec e k fz rows)) (hn:rows.length=n) (I:kC news=true) (cn:news.isEmpty=false)
  (hb:n+news.length<=9223372036854775807/\(n+news.length) * iP<=140737488355328)
  (h:GL P m ops Q rest (bC fr d (.vec i (n+news.length))) (oset Γ i (.vec e k fz (rows++news)))) :
  GL P m ops Q (⟨d,.call ⟨.builtin .append,#[s,x],#[t,t]⟩,ty,pos,af,none⟩::rest) fr Γ:=fun B K β w l hm hI hF=>by
 subst hn
 have cn:news≠[]:=by intro h0;rw [h0] at cn;cases cn
 obtain ⟨h0,xs,o1,o2,o3,o4,o5,o6⟩:=hI.ob i _ bJ;have vw:=hF.ev s;rw [hs] at vw
 have sJ:ev l s=h0:=by
  generalize hv:ev l s=v at vw
  cases vw with
  | vec _ _ a c hh =>
   obtain ⟨h',m',e1,e2,e3⟩:=hh;rw [o1] at e1;cases e1;exact e3 rfl
 have qE:=hF.ev x;rw [hx] at qE;generalize tX:ev l x=v at qE
 cases qE with
 | sl0 a c k=>exact absurd rfl cn
 | sl b o c _ _ hr _ =>
  have ni:gX k news:=fun r Px=>by
   exact zbw
  have AW:∀ (rows:List (List GV)) (o:Nat),(∀ (j:Nat) r,rows[j]?=some r->r.length=k/\∀ (q:Nat) g,r[q]?=some g->K b (o+j * k+q)=some g)->∀ (q:Nat) g,rows.flatten[q]?=some g->K b (o+q)=some g:=by
   intro rows
   induction rows with
   | nil=>intro o _ q g hg;simp at hg
   | cons r rows ih =>
    intro o h q g hg;rw [flatten_cons] at hg;have hl:=(h 0 r rfl).1
    by_cases hq:q < r.length
    ·rw [eR hq] at hg;have:=(h 0 r rfl).2 q g hg;exact zb8
    ·rw [fw zfO,hl] at hg
     have:=ih (o+k) (fun j r' hj=>by
      have:=h (j+1) r' zf4;refine ⟨this.1,fun q g hg=>?_⟩;have:=this.2 q g hg
      rw [show o+(j+1) * k+q=o+k+j * k+q by rw [Nat.succ_mul];omega] at this;exact this) (q - k) g hg
     rw [show o+k+(q - k)=o+q by omega] at this;exact this
  obtain ⟨us,kA,kZ⟩:=yh (K:=K) (β:=β) (H:=w.heap) (b:=b) news.flatten o (fun j g hj=>by
   obtain ⟨hp,u,hu,fT⟩:=hI.fz _ _ _ (AW news o (fun j r hj=>hr j r hj) j g hj)
   exact ⟨u,hu,fT.pc hp⟩)
  have zY:us.length=news.length * k:=by
   rw [kA.1,List.length_flatten]
   have:∀ (rows:List (List GV)),gX k rows->(rows.map List.length).sum=rows.length * k:=by
    intro rows
    induction rows with
    | nil=>intro _;simp
    | cons r rows ih =>
     intro hk;exact zcs
   exact this news ni
  refine WL.app (base:=0) (v:=h0) (n:=rows.length) (m:=news.length) (xs:=xs) (news:=us) sJ o2 tX zY (fun j u hj=>by rw [gw];exact kZ j u hj) (kA.mV (DF I)) hb.1 hb.2 (aO _) ?_;intro v' w' how ji wo xt
  obtain ⟨K',hK,sK,bz⟩:=hI.grow bJ o1 ⟨o2,o3⟩ (news:=news) (ns:=us) how ji wo kA ni cn (fun b bA o v ho hv=>by
   rcases xt with h7 | h7
   ·exact h7.c hv (fun h=>h)
   ·have iR:o < xs.length:=by rw [o2.1];exact y5 ho (sD k o6)
    obtain ⟨b2,c2,rm,_,_,lC⟩:=o2.cells.2 (by intro h0;rw [h0] at iR;simp at iR)
    have fJ:b2=b:=by rw [rm] at bA;cases bA;rfl
    subst fJ;have FC:=lC o xs[o] (by simp [iR]);rw [gw,hv] at FC;cases FC;obtain ⟨b3,c3,Ph,_,_,Pd⟩:=how.cells.2 (by intro h0;have:xs=[]:=(List.append_eq_nil_iff.1 h0).1;rw [this] at iR;simp at iR)
    have zJ:b3=b2:=by rw [Ph,bA] at h7;cases h7;rfl
    subst zJ
    rw [<-gw];exact Pd o _ zgG)
  rw [<-bg] at bz;refine h B K' _ w' _ hm bz ((hF.mono hK sK).put d ?_);obtain ⟨a,c,rfl⟩:=how.shape;exact .vec i _ a c ⟨_,_,bG,by simp,fun _=>by simp⟩
theorem Wk.Ez {i o:Nat} {T:TypeId} {cs:List GV} (E k:Nat) (hi:Γ[i]?=some (.box T cs)) (ho:cs[o]?=some (.v (.slice none 0 0))):Wk m fr Γ fr (oset Γ i (.box T (bp cs o (.vec Γ.length 0)))++[.vec E k 0 []]):=fun B K β w l hm hI hF=>by
 have cZ:β Γ.length=.no:=hI.out _ (aD _);have aj:i < Γ.length:=(bq hi).1;have bz:=hI.GK (w':=w) (E:=E) (k:=k) (x:=.slice none 0 0) (xs:=[]) (rows:=[]) (Ext.refl w) (jg.nil w 0 E k) (fun b hb=>by cases hb) bm.nil (fun r hr=>by cases hr);have hle:dF β (gk β Γ.length (.gr (.slice none 0 0) ([]:List (List GV)).length)):=jr zgg;refine ⟨K,_,⟨bz.ext,bz.kle,bz.ble,bz.loc,bz.fz,fun j x hj=>?_,fun j hj=>bz.out j (by simp [bg] at hj |-;exact hj),bz.dis,bz.own,bz.kn,bz.tab⟩,hF.mono (cV.refl K) hle⟩
 by_cases qg:j=i
 ·subst qg;rw [eR (by simp [bg];exact aj),bg,dN] at hj;simp [aj] at hj;subst hj;obtain ⟨b,vs,I,M,h3,h4⟩:=bz.ob j (.box T cs) (by rw [eR aj];exact hi);refine ⟨b,vs,I,M,?_,h4⟩
  have gen:∀ (vs:List Value) (cs:List GV) (o:Nat),bm K (gk β Γ.length (.gr (.slice none 0 0) ([]:List (List GV)).length)) vs cs->cs[o]?=some (.v (.slice none 0 0))->bm K (gk β Γ.length (.gr (.slice none 0 0) ([]:List (List GV)).length)) vs (bp cs o (.vec Γ.length 0)):=by
   intro vs
   induction vs with
   | nil=>intro cs o h ho;exact zdM
   | cons v vs ih =>
    intro cs o h ho
    cases cs with
    | nil=>simp at ho
    | cons c cs =>
     obtain ⟨a1,a2⟩:=h.pL
     cases o with
     | zero =>
      cases ho;have hv:=Rel.fF a1;subst hv;exact .cons (.vec _ 0 none 0 ⟨_,_,bG,aD _,fun _=>rfl⟩) a2
     | succ o=>exact .cons a1 (ih cs o a2 (by simpa using ho))
  exact gen vs cs o h3 ho
 ·refine bz.ob j x ?_
  by_cases qz:j < Γ.length
  ·rw [eR (by simp [bg];exact qz),bg,dN,F (fun e=>qg e.symm)] at hj;rw [eR qz];exact hj
  ·rw [fw (by simp [bg];omega)] at hj;rw [fw zfO];simpa [bg] using hj
theorem Wk.wK {i o j n E k fz:Nat} {T:TypeId} {cs:List GV} {rows:List (List GV)} (hi:Γ[i]?=some (.box T cs)) (ho:cs[o]?=some (.vec j n)) (gJ:Nat.beq i j=false) (hj:Γ[j]?=some (.vec E k fz rows)) (hn:rows.length=n):Wk m fr Γ fr (oset (oset Γ j (.vec E k n rows)) i (.box T (bp cs o (.sl k rows)))):=fun B K β w l hm hI hF=>by
 subst hn
 have cn:i≠j:=by intro e;subst e;simp at gJ
 obtain ⟨h0,xs,o1,o2,o3,o4,o5,o6⟩:=hI.ob j _ hj;obtain ⟨K',hK,Fu,bz⟩:=hI.iy hj;rw [<-bg] at bz;refine ⟨K',β,⟨bz.ext,bz.kle,bz.ble,bz.loc,bz.fz,fun q x hq=>?_,fun q hq=>bz.out q (by simpa [bg] using hq),bz.dis,bz.own,bz.kn,bz.tab⟩,hF.mono hK (dF.refl β)⟩
 by_cases hqi:q=i
 ·subst hqi;have aj:q < Γ.length:=(bq hi).1;rw [bg,dN] at hq;simp [bg,aj] at hq;subst hq;obtain ⟨b,vs,I,M,h3,h4⟩:=bz.ob q (.box T cs) zf5;refine ⟨b,vs,I,M,?_,h4⟩
  have gen:∀ (vs:List Value) (cs:List GV) (o:Nat),bm K' β vs cs->cs[o]?=some (.vec j rows.length)->bm K' β vs (bp cs o (.sl k rows)):=by
   intro vs
   induction vs with
   | nil=>intro cs o h ho;exact zdM
   | cons v vs ih =>
    intro cs o h ho
    cases cs with
    | nil=>simp at ho
    | cons c cs =>
     obtain ⟨a1,a2⟩:=h.pL
     cases o with
     | zero =>
      cases ho;refine .cons ?_ a2
      cases a1 with
      | vec _ _ a c hh =>
       obtain ⟨h',m',e1,e2,e3⟩:=hh;rw [o1] at e1;cases e1;have e4:=e3 rfl
       rcases o2.2 with ⟨e5,e6⟩ | ⟨g,cap,cu,e5,_,_,qB,_⟩
       ·have:rows=[]:=gC e6;subst this;exact .sl0 _ _ _
       ·rw [e5] at e4;cases e4;exact zb4
     | succ o=>exact .cons a1 (ih cs o a2 (by simpa using ho))
  exact gen vs cs o h3 ho
 ·rw [bg,dN,F (fun e=>hqi e.symm)] at hq;exact bz.ob q x hq
end
class Mb (P:Program) (t:TypeId) (k:outParam IntKind):Prop where
 und:P.underlying t=some (.int k)
class NG (P:Program) (t:TypeId):Prop where
 und:∃ e,P.underlying t=some (.slice e)/\P.underlying e=some (.int .u8)
theorem NG.mk' {P:Program} {t e:TypeId} (h:P.underlying t=some (.slice e)) (k:P.underlying e=some (.int .u8)):NG P t:=⟨e,h,k⟩
section
variable {P:Program} {m:Nat} {Q:dG} {fr:List GV} {Γ:List Ob} {ops:Array Oper} {rest:List Oper} {d:Option Tmp} {op:Op} {ty:TypeId} {pos:String} {af:Array Edge}
theorem YG.IW {x y:Operand} {t t':TypeId} {a b:Int} (hx:be fr x=.v (.int .u8 a)) (hy:be fr y=.v (.int .u8 b)) (hb:0<=a - b/\a - b<=255):YG P (.binOp .sub t x y t') fr Γ (.v (.int .u8 (a - b))) :=
 YG.v2 hx hy fun l w h k d ty pos af=>by simp [execOp,eqGuard,h,k,binOp,Op.intArith,IntWalk.u8_in _ hb]
theorem YG.quo {x y:Operand} {t t':TypeId} {a b:Int} (hx:be fr x=.v (ii a)) (hy:be fr y=.v (ii b)) (hb:0<=a/\a<=9223372036854775807/\1<=b):YG P (.binOp .quo t x y t') fr Γ (.v (ii (a / b))) :=
 YG.v2 hx hy fun l w h k d ty pos af=>by
  have cn:b≠0:=by omega
  simp [execOp,eqGuard,h,k,binOp,Op.intDiv,cn,IntWalk.i64_quo a b hb]
theorem YG.rem {x y:Operand} {t t':TypeId} {a b:Int} (hx:be fr x=.v (ii a)) (hy:be fr y=.v (ii b)) (hb:0<=a/\1<=b):YG P (.binOp .rem t x y t') fr Γ (.v (ii (a % b))) :=
 YG.v2 hx hy fun l w h k d ty pos af=>by
  have cn:b≠0:=by omega
  simp [execOp,eqGuard,h,k,binOp,Op.intDiv,cn,IntWalk.rem_in a b hb.1]
theorem YG.CX {x:Operand} {s t:TypeId} {k k':IntKind} {a:Int} [hS:Mb P s k'] [hT:Mb P t k] (hx:be fr x=.v (.int k' a)) (hw:k.wrap a=a):YG P (.convert s t x) fr Γ (.v (.int k a)) :=
 YG.v1 hx fun l w h d ty pos af=>by simp [execOp,h,convert,run_underlying hS.und,run_underlying hT.und,Conv.intToInt,hw]
theorem YG.str {x:Operand} {s t:TypeId} {l:ae} {rows:List (List GV)} [hS:NG P s] [hT:rK P t] (hx:be fr x=.sl 1 rows) (hr:rows=l.map fun c=>[.v (.int .u8 (c.toNat:Int))]):YG P (.convert s t x) fr Γ (.v (sv l)):=fun B K β w fl hI hF=>by
 subst hr;obtain ⟨e,I,M⟩:=hS.und;have h:=hF.ev x;rw [hx] at h;generalize hv:ev fl x=v at h;refine ⟨_,fun d ty pos af=>?_,.v _⟩
 have key:(convert s t v).run P w=.ok (sv l) w:=by
  generalize ni:(l.map fun c=>[GV.v (.int .u8 (c.toNat:Int))])=rows at h
  cases h with
  | sl0 a c =>
   have:l=[]:=by cases l with | nil=>rfl | cons x l=>simp at ni
   subst this
   cases a with
   | none=>rw [run_convert_bytes_string w s t e none 0 c I M hT.und];simp [Conv.bytesToString];rfl
   | some a=>exact run_convert_bytes_back w s t e a c [] I M hT.und (fun j hj=>by simp at hj)
  | sl b o c _ _ hc _ =>
   have hl:rows.length=l.length:=by rw [<-ni];simp
   rw [hl];refine run_convert_bytes_back w s t e ⟨b,o,none⟩ c l I M hT.und (fun j hj=>?_)
   have bI:rows[j]?=some [GV.v (.int .u8 (l[j].toNat:Int))]:=by rw [<-ni];simp [hj]
   obtain ⟨_,u,hu,fT⟩:=hI.fz _ _ _ ((hc j _ bI).2 0 _ rfl);rw [rM,gw];have:=Rel.fF fT;subst this;simpa using hu
 simp [execOp,hv,key]
end
structure Hid (B:Prop):Prop where
 h:B
structure u6 (aw:List Nat) (C:Prop):Prop where
 h:C
section
variable {P:Program} {m:Nat} {ops:Array Oper} {Q:dG} {rest:List Oper} {fr:List GV} {Γ:List Ob} {d:Option Tmp} {ty:TypeId} {pos:String} {af:Array Edge}
theorem GL.xg {f:FuncId} [hf:aK P f] {aw:List Nat} {args:List Operand} {mG:Array TypeId} {gs:List GV} {jz tB:List Ob} {g:GV} (hc:u6 aw (GF P f gs jz g tB)) (ha:ly (args.map (be fr)) (l7 (cB aw Γ.length) gs)) (fo:jM aw Γ.length=true)
  (bJ:seen (cB aw Γ.length) Γ aw jz) (hl:Nat.ble aw.length tB.length=true) (h:GL P m ops Q rest (bC fr d (ey (cB aw Γ.length) g)) (eA Γ aw (tB.map (Ob.ey (cB aw Γ.length))))) :
  GL P m ops Q (⟨d,.call ⟨.value (.func f),args.toArray,mG⟩,ty,pos,af,none⟩::rest) fr Γ:=GL.Mh aw hc.h ha fo bJ hl h
theorem GL.WU {f:FuncId} [hf:aK P f] {aw:List Nat} {args:List Operand} {mG:Array TypeId} {gs:List GV} {jz:List Ob} {R:GV->List Ob->Prop} (hc:u6 aw (GC P f gs jz R)) (ha:ly (args.map (be fr)) (l7 (cB aw Γ.length) gs)) (fo:jM aw Γ.length=true)
  (bJ:seen (cB aw Γ.length) Γ aw jz) (h:∀ g aR,R g aR->aw.length<=aR.length/\GL P m ops Q rest (bC fr d (ey (cB aw Γ.length) g)) (eA Γ aw (aR.map (Ob.ey (cB aw Γ.length))))) :
  GL P m ops Q (⟨d,.call ⟨.value (.func f),args.toArray,mG⟩,ty,pos,af,none⟩::rest) fr Γ:=GL.Gl aw hc.h ha fo bJ h
theorem GL.Oc {f:FuncId} [hf:aK P f] {aw:List Nat} {x:Operand} {first cap:List GV} {args:List Operand} {mG:Array TypeId} {gs:List GV} {jz:List Ob} {R:GV->List Ob->Prop} (hc:u6 aw (GC P f gs jz R)) (hx:be fr x=.fn (.func f) first cap) (ha:first++args.map (be fr)++cap=l7 (cB aw Γ.length) gs) (fo:jM aw Γ.length=true)
  (bJ:seen (cB aw Γ.length) Γ aw jz) (h:∀ g aR,R g aR->aw.length<=aR.length/\GL P m ops Q rest (bC fr d (ey (cB aw Γ.length) g)) (eA Γ aw (aR.map (Ob.ey (cB aw Γ.length))))) :
  GL P m ops Q (⟨d,.call ⟨.value x,args.toArray,mG⟩,ty,pos,af,none⟩::rest) fr Γ:=GL.tF aw hc.h hx ha fo bJ h
theorem GL.Oa {f:FuncId} [hf:aK P f] {aw:List Nat} {x:Operand} {args:List Operand} {mG:Array TypeId} {gs:List GV} {jz:List Ob} {R:GV->List Ob->Prop} (hc:u6 aw (GC P f gs jz R)) (hx:be fr x=.v (.func (.func f) #[] #[])) (ha:args.map (be fr)=l7 (cB aw Γ.length) gs) (fo:jM aw Γ.length=true)
  (bJ:seen (cB aw Γ.length) Γ aw jz) (h:∀ g aR,R g aR->aw.length<=aR.length/\GL P m ops Q rest (bC fr d (ey (cB aw Γ.length) g)) (eA Γ aw (aR.map (Ob.ey (cB aw Γ.length))))) :
  GL P m ops Q (⟨d,.call ⟨.value x,args.toArray,mG⟩,ty,pos,af,none⟩::rest) fr Γ:=GL.Zy aw hc.h hx ha fo bJ h
end
theorem dE {A : Prop} (s : A := by first | omega | assumption | (simp only [List.length_append,List.length_cons,List.length_nil];omega)) : A := s
theorem bc {A : Prop} (s : A := by first | rfl | assumption) : A := s
theorem uN {A : Prop} (s : A := by apply K.len;first | exact YG.Z2 rfl | exact YG.SM rfl | exact YG.abU rfl | exact YG.abV rfl | exact YG.lenA rfl) : A := s
theorem cJ {A : Prop} (s : A := by first | exact .inr rfl | exact .inl rfl) : A := s
theorem x5 {A : Prop} (s : A := by apply K.ld;first | exact YG.ldL rfl rfl bc | exact YG.Yx rfl rfl rfl rfl | exact YG.ldV rfl rfl bc bc bc | exact YG.ldH rfl rfl bc bc bc) : A := s
theorem Q5 {A : Prop} (s : A := by apply K.ld;first | exact YG.ldL rfl rfl bc | exact YG.ldB rfl bc | exact YG.Yx rfl rfl rfl rfl | exact YG.Yw rfl rfl rfl | exact YG.ldV rfl rfl bc bc bc | exact YG.ldH rfl rfl bc bc bc) : A := s
theorem sC {A : Prop} (s : A := by apply K.nck;first | exact YG.abZ rfl | exact YG.abY rfl) : A := s
theorem ug {A : Prop} (s : A := by apply K.pick;first | exact YG.UQ rfl bc | exact YG.UP rfl bc) : A := s
theorem dh {A : Prop} (s : A := by assumption) : A := s
theorem ft {A : Prop} (s : A := by omega) : A := s
theorem DR {A : Prop} (s : A := by apply K.bin;first | exact YG.go rfl | exact YG.zq rfl rfl ft | exact YG.CZ rfl rfl | exact YG.DB rfl rfl | exact YG.G5 rfl rfl | exact YG.Ij rfl rfl | exact YG.cat rfl rfl ft | exact YG.cat rfl rfl (by simp only [List.length_append,List.length_cons,List.length_nil];omega) | exact YG.ff rfl rfl ft | exact YG.add rfl rfl ft | exact YG.sub rfl rfl ft | exact YG.mul rfl rfl ft | exact YG.IW rfl rfl ft | exact YG.quo rfl rfl ft | exact YG.rem rfl rfl ft | exact YG.yB rfl rfl) : A := s
theorem DS {A : Prop} (s : A := by apply K.QJ;first | exact YG.IV rfl rfl rfl ft | exact YG.IU rfl rfl ft | exact YG.IQ rfl rfl ft | exact YG.Aw 1 rfl rfl rfl bc) : A := s
theorem U2 {A : Prop} (s : A := by apply K.idx;first | exact YG.idxV rfl rfl rfl bc ft | exact YG.eX 0 rfl rfl rfl dE | exact YG.eX 1 rfl rfl rfl dE | exact YG.eX 2 rfl rfl rfl dE | exact YG.eX 3 rfl rfl rfl dE | exact YG.eX 4 rfl rfl rfl dE | exact YG.eX 5 rfl rfl rfl dE | exact YG.eX 6 rfl rfl rfl dE) : A := s
theorem U3 {A : Prop} (s : A := by apply K.idx;first | exact YG.yu rfl rfl dh | exact YG.oy rfl rfl dh rfl | exact YG.oy rfl rfl dh ft | exact YG.z6 rfl rfl ft | exact YG.idxV rfl rfl rfl bc ft | exact YG.eX 0 rfl rfl rfl dE | exact YG.eX 1 rfl rfl rfl dE | exact YG.eX 2 rfl rfl rfl dE | exact YG.eX 3 rfl rfl rfl dE | exact YG.eX 4 rfl rfl rfl dE | exact YG.eX 5 rfl rfl rfl dE | exact YG.eX 6 rfl rfl rfl dE) : A := s
theorem AE {A : Prop} (s : A := by first | rfl | exact IntWalk.i64_in _ ft | exact IntWalk.u8_in _ ft | assumption) : A := s
theorem I9 {A : Prop} (s : A := by apply K.idx;first | exact YG.yu rfl rfl dh | exact YG.oy rfl rfl dh rfl | exact YG.oy rfl rfl dh ft | exact YG.z6 rfl rfl ft) : A := s
theorem uh {A : Prop} (s : A := by apply K.Ew;first | exact YG.mkfn0 | exact YG.Ew) : A := s
theorem vQ {A : Prop} (s : A := by apply K.ld;first | exact YG.ldB rfl bc | exact YG.Yw rfl rfl rfl) : A := s
theorem Q7 {A : Prop} (s : A := by apply K.W6;first | exact YG.W9 rfl | exact YG.W7 rfl | exact YG.fldV rfl rfl bc | exact YG.W8 rfl rfl bc) : A := s
theorem NC {A : Prop} (s : A := by first | exact YG.mv | exact YG.xb | exact DR | exact Q7 | exact Q5 | exact uN | exact sC | exact ug | exact U3 | exact YG.ext rfl rfl | exact YG.go rfl | exact DS | exact YG.vA rfl rfl dh | exact YG.idxSC rfl rfl dh rfl | exact uh | exact YG.build rfl | exact YG.neg rfl ft | exact YG.vk rfl rfl | exact YG.CX rfl AE | exact YG.str rfl bc) : A := s
theorem vR {A : Prop} (s : A := by apply K.W6;first | exact YG.W9 rfl | exact YG.W7 rfl) : A := s
theorem x6 {A : Prop} (s : A := by apply K.W6;first | exact YG.fldV rfl rfl bc | exact YG.W8 rfl rfl bc) : A := s
theorem U1 {A : Prop} (s : A := by first | exact x5 | exact U2 | exact x6 | exact YG.xT 1 rfl rfl bc bc | exact YG.mv | exact YG.xb | exact DR | exact vR | exact vQ | exact uN | exact sC | exact ug | exact I9 | exact YG.ext rfl rfl | exact YG.go rfl | exact DS | exact YG.vA rfl rfl dh | exact YG.idxSC rfl rfl dh rfl | exact uh | exact YG.build rfl | exact YG.neg rfl ft | exact YG.vk rfl rfl | exact YG.CX rfl AE | exact YG.str rfl bc) : A := s
theorem Q6 {A : Prop} (s : A := by first | exact x5 | exact U2 | exact x6 | exact YG.xT 1 rfl rfl bc bc) : A := s
theorem kv {A:Prop} (s:A:=by repeat (first | exact ky.n | (apply ky.w;(· decide +kernel)) | (apply ky.y;(· first | (apply YQ.t;(· exact rfl);(· exact rfl);(· exact U1)) | (apply YQ.t;(· exact rfl);(· apply Eg;(· exact rfl);(· first | exact rfl | assumption));(· exact U1)) | (apply YQ.f;(· exact rfl);(· apply Hi;(· exact rfl);(· first | exact rfl | assumption))))))):A:=s
theorem dZ {A:Prop} (s:A:=by (try simp only [bC,bp,be,cK,List.length_cons,List.length_nil,Nat.reduceAdd,ey,l7,cB]);rfl):A:=s
theorem fG {A:Prop} (s:A:=by (try simp only [List.cons_append,List.nil_append,oset,pX,bp,cK,be,eA,List.map_cons,List.map_nil,Ob.ey,ey,l7,cB]);rfl):A:=s
theorem wO {A:Prop} (s:A:=by simp only [bC,bp,be,cK];rfl):A:=s
theorem mI {A:Prop} (s:A:=by first | exact ly.refl | (repeat (first | exact ly.nil | exact oh.refl | exact oh.nil | exact oh.U | exact oh.fn0 | refine ly.cons ?_ ?_ | refine oh.agg ?_))):A:=s
theorem pP {A:Prop} (s:A:=by first | exact trivial | exact ⟨rfl,trivial⟩ | exact ⟨rfl,rfl,trivial⟩ | exact ⟨rfl,rfl,rfl,trivial⟩ | exact ⟨rfl,rfl,rfl,rfl,rfl,trivial⟩):A:=s
theorem D {A B:Prop} (h:B) (s:Hid B->A:=by intro hQ;(repeat (first | ((first | (apply GL.q;(· exact NC)) | refine GL.nil ?_ | refine aY ?_ | refine GW.seq ?_ | refine GW.region ?_ | refine GW.skip ?_ | refine iQ ?_ | refine GW.block ?_ | (apply GL.gt;(· exact rfl);(· first | exact rfl | assumption)) | (apply GL.gf;(· exact rfl);(· first | exact rfl | assumption)) | (apply GL.gu;(· exact rfl)) | (apply NT;(· exact rfl);(· first | exact rfl | assumption)) | (apply NS;(· exact rfl);(· first | exact rfl | assumption)));try refine GN wO ?_) | ((first | (apply GL.alloc;(· simp only [mH,Value.cells,List.map_cons,List.map_nil];rfl)) | (apply GL.box;(· exact rfl)) | (apply GL.st;(· exact rfl);(· exact rfl);(· exact rfl);(· exact rfl);(· exact rfl);(· exact rfl)));refine uw dZ fG ?_)));exact hQ.1):A:=s ⟨h⟩
theorem ao {A B:Prop} (h:B) (s:Hid B->A:=by intro hQ;(repeat ((first | (apply OPm;(· exact rfl)) | (apply OPa;(· exact rfl)) | (apply OP;(· exact rfl);(· intro Γ;(first | exact DR | exact vR | exact vQ | exact uN | exact sC | exact I9 | exact YG.ext rfl rfl | exact YG.go rfl | exact DS | exact YG.vA rfl rfl dh | exact YG.idxSC rfl rfl dh rfl | exact uh | exact YG.build rfl | exact YG.neg rfl ft | exact YG.vk rfl rfl | exact YG.CX rfl AE | exact YG.str rfl bc))) | (apply aaD;(· exact rfl);(· exact rfl);(· first | exact rfl | assumption)) | (apply aaC;(· exact rfl);(· exact rfl);(· first | exact rfl | assumption)) | (apply aaE;(· exact rfl);(· exact rfl);(· first | exact rfl | assumption)) | (apply OQ;(· exact rfl);(· exact Q6)) | (apply OPt;(· exact rfl);(· exact rfl);(· first | exact rfl | assumption);(· intro Γ;(first | exact YG.mv | exact YG.xb | exact DR | exact vR | exact vQ | exact uN | exact sC | exact ug | exact I9 | exact YG.ext rfl rfl | exact YG.go rfl | exact DS | exact YG.vA rfl rfl dh | exact YG.idxSC rfl rfl dh rfl | exact uh | exact YG.build rfl | exact YG.neg rfl ft | exact YG.vk rfl rfl | exact YG.CX rfl AE | exact YG.str rfl bc))) | (apply OQt;(· exact rfl);(· exact rfl);(· first | exact rfl | assumption);(· exact Q6)) | (apply ONf;(· exact rfl);(· exact rfl);(· first | exact rfl | assumption)) | (apply ONu;(· exact rfl);(· exact rfl)) | (apply OAf;(· exact rfl);(· exact rfl);(· first | exact rfl | assumption);(· exact kv)) | (apply OAu;(· exact rfl);(· exact rfl);(· exact kv)) | refine GO.nil ?_ | (apply OA;(· exact rfl);(· exact rfl);apply GL.alloc;(· simp only [mH,Value.cells,List.map_cons,List.map_nil];rfl);refine GL.nil (aY (fM.mk kv ?_));refine qj dZ fG ?_) | (apply OA;(· exact rfl);(· exact rfl);apply GL.st;(· exact rfl);(· exact rfl);(· exact rfl);(· exact rfl);(· exact rfl);(· exact rfl);refine GL.nil (aY (fM.mk kv ?_));refine qj dZ fG ?_) | (apply OA;(· exact rfl);(· exact rfl);apply GL.box;(· exact rfl);refine GL.nil (aY (fM.mk kv ?_));refine qj dZ fG ?_));try refine GON wO ?_));exact hQ.1):A:=s ⟨h⟩
theorem jY {A B:Prop} (h:B) (s:Hid B->A:=by intro hQ;(repeat (first | ((first | (apply GL.q;(· (first | exact YG.mv | exact YG.xb | exact DR | exact Q7 | exact Q5 | exact uN | exact sC | exact ug | exact U3 | exact YG.ext rfl rfl | exact YG.go rfl | exact DS | exact YG.vA rfl rfl dh | exact YG.idxSC rfl rfl dh rfl | fail | exact YG.build rfl | exact YG.neg rfl ft | exact YG.vk rfl rfl | exact YG.CX rfl AE | exact YG.str rfl bc))) | refine GL.nil ?_ | refine aY ?_ | refine GW.seq ?_ | refine GW.region ?_ | refine GW.skip ?_ | refine iQ ?_ | refine GW.block ?_ | (apply GL.gt;(· exact rfl);(· first | exact rfl | assumption)) | (apply GL.gf;(· exact rfl);(· first | exact rfl | assumption)) | (apply GL.gu;(· exact rfl)) | (apply NT;(· exact rfl);(· first | exact rfl | assumption)) | (apply NS;(· exact rfl);(· first | exact rfl | assumption)));try refine GN wO ?_) | ((first | (apply GL.alloc;(· simp only [mH,Value.cells,List.map_cons,List.map_nil];rfl)) | (apply GL.box;(· exact rfl)) | (apply GL.st;(· exact rfl);(· exact rfl);(· exact rfl);(· exact rfl);(· exact rfl);(· exact rfl)));refine uw dZ fG ?_)));exact hQ.1):A:=s ⟨h⟩
theorem LW {A B:Prop} (h:B) (s:Hid B->A:=by intro hQ;(repeat (first | ((first | (apply GL.q;(· exact NC)) | refine GL.nil ?_ | refine aY ?_ | refine GW.seq ?_ | refine GW.region ?_ | refine GW.skip ?_ | refine iQ ?_ | (apply GL.gt;(· exact rfl);(· first | exact rfl | assumption)) | (apply GL.gf;(· exact rfl);(· first | exact rfl | assumption)) | (apply GL.gu;(· exact rfl)) | (apply NT;(· exact rfl);(· first | exact rfl | assumption)) | (apply NS;(· exact rfl);(· first | exact rfl | assumption)));try refine GN wO ?_) | ((first | (apply GL.alloc;(· simp only [mH,Value.cells,List.map_cons,List.map_nil];rfl)) | (apply GL.box;(· exact rfl)) | (apply GL.st;(· exact rfl);(· exact rfl);(· exact rfl);(· exact rfl);(· exact rfl);(· exact rfl)));refine uw dZ fG ?_)));exact hQ.1):A:=s ⟨h⟩
theorem bL {A B:Prop} (h:B) (s:Hid B->A:=by intro hQ;(try refine GN wO ?_);exact hQ.1):A:=s ⟨h⟩
theorem U0 {A B:Prop} (h:B) (s:Hid B->A:=by intro hQ;(try refine GON wO ?_);exact hQ.1):A:=s ⟨h⟩
theorem bM {A B:Prop} (h:B) (s:Hid B->A:=by intro hQ;(refine uw dZ fG ?_);exact hQ.1):A:=s ⟨h⟩
theorem Q3 {A B:Prop} (h:B) (s:Hid B->A:=by intro hQ;(refine qj dZ fG ?_);exact hQ.1):A:=s ⟨h⟩
theorem kJ {A B:Prop} (h:B) (s:Hid B->A:=by intro hQ;((repeat (first | refine GW.exit ?_ | refine Hl ?_ | refine Kx ?_ | refine ginb_xn rfl ?_ | refine iQ ?_ | refine aY ?_)));exact hQ.1):A:=s ⟨h⟩
theorem cH {A B:Prop} (h:B) (s:Hid B->A:=by intro hQ;((repeat (first | refine GW.ret ?_ | refine ml ?_ | refine mj ?_ | refine aY ?_ | refine iQ ?_));refine rR rfl cJ rfl (Nat.le_refl _) rfl rfl ?_);exact hQ.1):A:=s ⟨h⟩
theorem cM {A B:Prop} (h:B) (s:Hid B->A:=by intro hQ;((repeat (first | refine GW.ret ?_ | refine ml ?_ | refine mj ?_ | refine aY ?_ | refine iQ ?_));refine Xe rfl cJ (Nat.le_refl _) rfl ?_);exact hQ.1):A:=s ⟨h⟩
theorem Ba {A B:Prop} (h:B) (s:Hid B->A:=by intro hQ;((repeat (first | refine GW.ret ?_ | refine ml ?_ | refine mj ?_ | refine aY ?_ | refine iQ ?_));refine Xf rfl cJ rfl rfl (Nat.le_refl _) rfl rfl ?_);exact hQ.1):A:=s ⟨h⟩
theorem LU {A B:Prop} (h:B) (s:Hid B->A:=by intro hQ;((repeat (first | refine GW.ret ?_ | refine ml ?_ | refine mj ?_ | refine aY ?_ | refine iQ ?_));refine Xh rfl cJ rfl rfl rfl (Nat.le_refl _) rfl rfl ?_);exact hQ.1):A:=s ⟨h⟩
theorem tz {A B:Prop} (h:B) (s:Hid B->A:=by intro hQ;((repeat (first | refine GW.ret ?_ | refine ml ?_ | refine mj ?_ | refine aY ?_ | refine iQ ?_));refine zE ?_;refine Xh rfl cJ rfl rfl rfl (Nat.le_refl _) rfl rfl ?_);exact hQ.1):A:=s ⟨h⟩
theorem I8 {A B:Prop} (h:B) (s:Hid B->A:=by intro hQ;((repeat (first | refine GW.ret ?_ | refine ml ?_ | refine mj ?_ | refine aY ?_ | refine iQ ?_));refine zE ?_;refine Xf rfl cJ rfl rfl (Nat.le_refl _) rfl rfl ?_);exact hQ.1):A:=s ⟨h⟩
theorem tA {A B:Prop} (h:B) (s:Hid B->A:=by intro hQ;((repeat (first | refine GW.ret ?_ | refine ml ?_ | refine mj ?_ | refine aY ?_ | refine iQ ?_));refine zE ?_;refine R5 rfl cJ rfl rfl rfl (Nat.le_refl _) rfl rfl ?_);exact hQ.1):A:=s ⟨h⟩
theorem kU {A B:Prop} (h:B) (s:Hid B->A:=by intro hQ;((repeat (first | refine GW.ret ?_ | refine ml ?_ | refine mj ?_ | refine aY ?_ | refine iQ ?_));refine T0 rfl cJ rfl rfl rfl rfl (Nat.le_refl _) rfl rfl ?_);exact hQ.1):A:=s ⟨h⟩
theorem Q4 {A B:Prop} (h:B) (s:Hid B->A:=by intro hQ;((repeat (first | refine GW.ret ?_ | refine ml ?_ | refine mj ?_ | refine aY ?_ | refine iQ ?_));refine zE ?_;refine T0 rfl cJ rfl rfl rfl rfl (Nat.le_refl _) rfl rfl ?_);exact hQ.1):A:=s ⟨h⟩
theorem nT {A B:Prop} (h:B) (s:Hid B->A:=by intro hQ;((repeat (first | refine GW.ret ?_ | refine ml ?_ | refine mj ?_ | refine aY ?_ | refine iQ ?_));refine O0 rfl cJ rfl rfl rfl rfl rfl (Nat.le_refl _) rfl rfl ?_);exact hQ.1):A:=s ⟨h⟩
theorem DQ {A B:Prop} (h:B) (s:Hid B->A:=by intro hQ;((repeat (first | refine GW.ret ?_ | refine ml ?_ | refine mj ?_ | refine aY ?_ | refine iQ ?_));refine zE ?_;refine O0 rfl cJ rfl rfl rfl rfl rfl (Nat.le_refl _) rfl rfl ?_);exact hQ.1):A:=s ⟨h⟩
theorem LV {A B:Prop} (h:B) (s:Hid B->A:=by intro hQ;((repeat (first | refine GW.ret ?_ | refine ml ?_ | refine mj ?_ | refine aY ?_ | refine iQ ?_));refine R5 rfl cJ rfl rfl rfl (Nat.le_refl _) rfl rfl ?_);exact hQ.1):A:=s ⟨h⟩
theorem cx {A B:Prop} (h:B) (s:Hid B->A:=by intro hQ;(refine GL.mkF rfl rfl rfl rfl ?_;refine uw dZ fG ?_);exact hQ.1):A:=s ⟨h⟩
theorem pN {A B:Prop} (h:B) (s:Hid B->A:=by intro hQ;(refine GL.UH rfl rfl rfl rfl ?_;refine uw dZ fG ?_);exact hQ.1):A:=s ⟨h⟩
theorem en {A B:Prop} (h:B) (s:Hid B->A:=by intro hQ;(refine GL.push rfl rfl rfl rfl rfl rfl rfl rfl bc ⟨⟨by omega,by omega⟩,by decide⟩ ?_;refine uw dZ fG ?_);exact hQ.1):A:=s ⟨h⟩
theorem rH {A B:Prop} (h:B) (s:Hid B->A:=by intro hQ;(refine OA rfl rfl (GL.UH rfl rfl rfl rfl (GL.nil (aY (fM.mk kv ?_))));refine qj dZ fG ?_);exact hQ.1):A:=s ⟨h⟩
theorem tw {A B:Prop} (h:B) (s:Hid B->A:=by intro hQ;(refine OA rfl rfl (GL.app rfl rfl rfl bc rfl rfl (by refine ⟨?_,?_⟩;(· show _+1<=_;omega);(· show (_+1) * _<=_;omega)) (GL.nil (aY (fM.mk kv ?_))));refine qj dZ fG ?_);exact hQ.1):A:=s ⟨h⟩
theorem ea {A B:Prop} (h:B) (s:Hid B->A:=by intro hQ;(refine OA rfl rfl (GL.mkF rfl rfl rfl rfl (GL.nil (aY (fM.mk kv ?_))));refine qj dZ fG ?_);exact hQ.1):A:=s ⟨h⟩
theorem I7 {A B:Prop} (h:B) (s:Hid B->A:=by intro hQ;(refine OA rfl rfl (GL.st rfl rfl rfl rfl rfl rfl (GL.nil (aY (fM.mk kv ?_))));refine qj dZ fG ?_);exact hQ.1):A:=s ⟨h⟩
theorem NB {A B:Prop} (h:B) (s:Hid B->A:=by intro hQ;(refine OA rfl rfl (GL.Q0 1 (by kernel_rfl) (by kernel_rfl) rfl rfl rfl rfl dh ft (GL.nil (aY (fM.mk kv ?_))));refine qj dZ fG ?_);exact hQ.1):A:=s ⟨h⟩
theorem oE {A B:Prop} (h:B) (s:Hid B->A:=by intro hQ;(refine GL.stH rfl rfl rfl bc rfl rfl rfl rfl ?_;refine uw dZ fG ?_);exact hQ.1):A:=s ⟨h⟩
theorem mg {A B:Prop} (h:B) (s:Hid B->A:=by intro hQ;(refine GL.ab3 rfl rfl (by first | rfl | assumption | omega) ft rfl rfl rfl rfl ?_;refine uw dZ fG ?_);exact hQ.1):A:=s ⟨h⟩
theorem cI {A B:Prop} (h:B) (s:Hid B->A:=by intro hQ;(refine ⟨by simp,?_⟩;refine uw dZ fG ?_);exact hQ.1):A:=s ⟨h⟩
theorem cD {A B:Prop} (h:B) (s:Hid B->A:=by intro hQ;(refine GL.nil (aY (fM.mk kv ?_));refine qj dZ fG ?_);exact hQ.1):A:=s ⟨h⟩
theorem qb {A:Prop} (s:A:=by simp only [aQ,uU];rfl):A:=s
theorem kp {A:Prop} (s:A:=by first | exact ly.refl | exact oh.refl | (repeat (first | exact ly.nil | exact oh.refl | exact oh.nil | exact oh.U | exact oh.fn0 | refine ly.cons ?_ ?_ | refine oh.agg ?_ | refine oh.tup ?_))):A:=s
theorem ak {A:Prop} (s:A:=by repeat (first | exact vb.nil | refine vb.U ?_ | refine vb.eq rfl ?_)):A:=s
theorem iq {A B C:Prop} (aw:List Nat) (c:C) (h:B) (s:u6 aw C->Hid B->A:=by intro hC hQ;(refine GL.xg hC mI rfl pP rfl ?_;refine uw dZ fG ?_);exact hQ.1):A:=s ⟨c⟩ ⟨h⟩
theorem V {A B C:Prop} (aw:List Nat) (c:C) (h:B) (s:u6 aw C->Hid B->A:=by intro hC hQ;(refine GL.xg hC mI rfl pP rfl ?_;refine uw dZ fG ?_);refine D ?_;exact hQ.1):A:=s ⟨c⟩ ⟨h⟩
theorem qZ {A B C:Prop} (aw:List Nat) (c:C) (h:B) (s:u6 aw C->Hid B->A:=by intro hC hQ;(refine OA rfl rfl (GL.xg hC mI rfl pP rfl (GL.nil (aY (fM.mk kv ?_))));refine qj dZ fG ?_);exact hQ.1):A:=s ⟨c⟩ ⟨h⟩
theorem aI {A B C:Prop} (aw:List Nat) (c:C) (h:B) (s:u6 aw C->Hid B->A:=by intro hC hQ;(refine OA rfl rfl (GL.xg hC mI rfl pP rfl (GL.nil (aY (fM.mk kv ?_))));refine qj dZ fG ?_);refine ao ?_;exact hQ.1):A:=s ⟨c⟩ ⟨h⟩
theorem aaB {A B C:Prop} (aw:List Nat) (c:C) (h:B) (s:u6 aw C->Hid B->A:=by intro hC hQ;(refine TO rfl rfl rfl (by first | exact rfl | assumption) (GL.xg hC mI rfl pP rfl (GL.nil (aY (fM.mk kv ?_))));refine qj dZ fG ?_);exact hQ.1):A:=s ⟨c⟩ ⟨h⟩
theorem b7 {A B C:Prop} (aw:List Nat) (c:C) (h:B) (s:u6 aw C->Hid B->A:=by intro hC hQ;(refine TO rfl rfl rfl (by first | exact rfl | assumption) (GL.xg hC mI rfl pP rfl (GL.nil (aY (fM.mk kv ?_))));refine qj dZ fG ?_);refine ao ?_;exact hQ.1):A:=s ⟨c⟩ ⟨h⟩
theorem jX {A B C:Prop} (aw:List Nat) (c:C) (h:B) (s:u6 aw C->Hid B->A:=by intro hC hQ;(refine GL.Oa hC rfl rfl rfl pP ?_;rintro _ _ ⟨rfl,rfl⟩;refine ⟨by simp,?_⟩;refine uw dZ fG ?_);exact hQ.1):A:=s ⟨c⟩ ⟨h⟩
theorem pM {A B C:Prop} (aw:List Nat) (c:C) (h:B) (s:u6 aw C->Hid B->A:=by intro hC hQ;(refine GL.Oc hC rfl rfl rfl pP ?_;rintro _ _ ⟨rfl,rfl⟩;refine ⟨by simp,?_⟩;refine uw dZ fG ?_);exact hQ.1):A:=s ⟨c⟩ ⟨h⟩
theorem AD {A B C:Prop} (aw:List Nat) (c:C) (h:B) (s:u6 aw C->Hid B->A:=by intro hC hQ;(refine OA rfl rfl (GL.Oa hC rfl rfl rfl pP ?_);rintro _ _ ⟨rfl,rfl⟩;refine ⟨by simp,(GL.nil (aY (fM.mk kv ?_)))⟩;refine qj dZ fG ?_);exact hQ.1):A:=s ⟨c⟩ ⟨h⟩
theorem pO {A B C:Prop} (aw:List Nat) (c:C) (h:B) (s:u6 aw C->Hid B->A:=by intro hC hQ;(refine OA rfl rfl (GL.Oc hC rfl rfl rfl pP ?_);rintro _ _ ⟨rfl,rfl⟩;refine ⟨by simp,(GL.nil (aY (fM.mk kv ?_)))⟩;refine qj dZ fG ?_);exact hQ.1):A:=s ⟨c⟩ ⟨h⟩
theorem bP {A B C:Prop} (aw:List Nat) (c:C) (h:B) (s:u6 aw C->Hid B->A:=by intro hC hQ;(refine GL.WU hC mI rfl pP ?_);exact hQ.1):A:=s ⟨c⟩ ⟨h⟩
theorem c8 {A B C acJ : Prop} (f : C) (n : acJ) (h : B) (s : C -> acJ -> Hid B -> A := by intro hC hD hQ;refine GC.enter hC hD rfl (by simp only [zF,Hk,Nat.reduceSub];rfl) ?_;exact hQ.1) : A := s f n ⟨h⟩
theorem ah {A B C acJ : Prop} (f : C) (n : acJ) (h : B) (s : C -> acJ -> Hid B -> A := by intro hC hD hQ;refine GC.enter hC hD rfl (by simp only [zF,Hk,Nat.reduceSub];rfl) ?_;refine D ?_;exact hQ.1) : A := s f n ⟨h⟩
theorem al {A : Prop} (s : A := by refine cH ?_;exact ⟨rfl,rfl⟩) : A := s
theorem ax {A : Prop} (s : A := by refine D ?_;refine cH ?_;exact ⟨rfl,rfl⟩) : A := s
theorem iO {A : Prop} (s : A := by refine cM ?_;exact ⟨rfl,rfl⟩) : A := s
theorem od {A : Prop} (s : A := by refine D ?_;refine cM ?_;exact ⟨rfl,rfl⟩) : A := s
theorem oe {A : Prop} (s : A := by refine Ba ?_;exact ⟨rfl,rfl⟩) : A := s
theorem q9 {A : Prop} (s : A := by refine D ?_;refine Ba ?_;exact ⟨rfl,rfl⟩) : A := s
theorem ed {A : Prop} (s : A := by refine LV ?_;exact ⟨rfl,rfl⟩) : A := s
theorem lO {A : Prop} (s : A := by refine D ?_;refine LV ?_;exact ⟨rfl,rfl⟩) : A := s
theorem ai {A : Prop} (s : A := by kernel_rfl) : A := s
theorem G {A : Prop} (s : A := by omega) : A := s
theorem jc {A B : Prop} (h : B) (s : Hid B -> A := by intro hQ;(repeat (first | refine GW.ret ?_ | refine ml ?_ | refine mj ?_ | refine aY ?_ | refine iQ ?_));exact hQ.1) : A := s ⟨h⟩
theorem acH {A : Prop} (s : A := by first | rfl | assumption) : A := s
theorem jd {A : Prop} (s : A := by rintro k _ _ ⟨rfl,rfl,_⟩;exact ⟨rfl,rfl,rfl⟩) : A := s
theorem jw {A : Prop} (s : A := by exact ⟨_,_,Wk.aC ak,rfl,rfl⟩) : A := s
theorem lj {A : Prop} (s : A := by exact ⟨_,_,Wk.aC ak,rfl,rfl,rfl⟩) : A := s
theorem jv {A : Prop} (s : A := by refine D ?_;exact ⟨_,_,Wk.aC ak,rfl,rfl⟩) : A := s
theorem dp {A : Prop} (s : A := by exact ⟨rfl,rfl,rfl⟩) : A := s
theorem bo {A B : Prop} (h : B) (s : Hid B -> A := by intro hQ;refine ao ?_;refine D ?_;exact hQ.1) : A := s ⟨h⟩
theorem cm {A B : Prop} (h : B) (s : Hid B -> A := by intro hQ;refine D ?_;refine kJ ?_;exact hQ.1) : A := s ⟨h⟩
theorem ju {A : Prop} (s : A := by exact ⟨⟨by omega,by omega⟩,by decide⟩) : A := s
theorem aP {A : Prop} (s : A := by decide) : A := s
def aE:Nat->Nat->Ot->Ot
 | _,0,r=>r
 | s,n+1,r=>.q s (aE (s+1) n r)
def ab5:List Nat->Ot->Ot
 | [],r=>r
 | i::l,r=>.q i (ab5 l r)
theorem aL {P:Program} {m id:Nat} {ol:List Oper} {Q:dG} {fr:List GV} {Γ:List Ob} (ord:Ot) (h:GO P ol.toArray (Q .normal) ord [] fr Γ) (hm:P.follows .mixedOrders=true:=by kernel_rfl) (fo:(Region.noSelect ol.toArray&&(ord.len==ol.length)&&vG ol.toArray ord (Array.replicate ol.toArray.size false))=true:=by kernel_rfl):GW P m (.region id ol.toArray true) Q fr Γ:=GW.draw ord hm fo h
end Go.Xg
namespace Go.Xw
open Go.Proofs Tryz
open Go.Xg (ai)
instance:aK prog 6:=⟨ai⟩
instance:aK prog 8:=⟨ai⟩
instance:aK prog 10:=⟨ai⟩
instance:aK prog 11:=⟨ai⟩
instance:aK prog 12:=⟨ai⟩
instance:aK prog 15:=⟨ai⟩
instance:aK prog 16:=⟨ai⟩
instance:aK prog 17:=⟨ai⟩
instance:aK prog 18:=⟨ai⟩
instance:aK prog 19:=⟨ai⟩
instance:aK prog 20:=⟨ai⟩
instance:aK prog 21:=⟨ai⟩
instance:aK prog 22:=⟨ai⟩
instance:aK prog 23:=⟨ai⟩
instance:aK prog 25:=⟨ai⟩
instance:aK prog 26:=⟨ai⟩
instance:aK prog 28:=⟨ai⟩
instance:aK prog 30:=⟨ai⟩
instance:aK prog 31:=⟨ai⟩
instance:aK prog 32:=⟨ai⟩
instance:aK prog 33:=⟨ai⟩
instance:aK prog 34:=⟨ai⟩
instance:aK prog 35:=⟨ai⟩
instance:aK prog 37:=⟨ai⟩
instance:aK prog 38:=⟨ai⟩
instance:aK prog 39:=⟨ai⟩
instance:aK prog 42:=⟨ai⟩
instance:aK prog 43:=⟨ai⟩
instance:aK prog 44:=⟨ai⟩
instance:aK prog 46:=⟨ai⟩
instance:aK prog 47:=⟨ai⟩
instance:aK prog 48:=⟨ai⟩
instance:aK prog 49:=⟨ai⟩
instance:aK prog 50:=⟨ai⟩
instance:aK prog 51:=⟨ai⟩
instance:aK prog 52:=⟨ai⟩
instance:aK prog 53:=⟨ai⟩
instance:aK prog 54:=⟨ai⟩
instance:aK prog 55:=⟨ai⟩
instance:aK prog 56:=⟨ai⟩
instance:aK prog 57:=⟨ai⟩
instance:aK prog 58:=⟨ai⟩
instance:aK prog 60:=⟨ai⟩
instance:aK prog 62:=⟨ai⟩
instance:aK prog 63:=⟨ai⟩
instance:aK prog 66:=⟨ai⟩
instance:aK prog 67:=⟨ai⟩
instance:aK prog 68:=⟨ai⟩
instance:aK prog 69:=⟨ai⟩
instance:aK prog 70:=⟨ai⟩
instance:aK prog 71:=⟨ai⟩
instance:aK prog 72:=⟨ai⟩
instance:aK prog 73:=⟨ai⟩
instance:aK prog 74:=⟨ai⟩
instance:aK prog 75:=⟨ai⟩
instance:aK prog 76:=⟨ai⟩
instance:aK prog 77:=⟨ai⟩
instance:aK prog 78:=⟨ai⟩
instance:aK prog 79:=⟨ai⟩
instance:aK prog 80:=⟨ai⟩
instance:aK prog 81:=⟨ai⟩
instance:aK prog 82:=⟨ai⟩
instance:aK prog 83:=⟨ai⟩
instance:aK prog 84:=⟨ai⟩
instance:aK prog 85:=⟨ai⟩
instance:aK prog 86:=⟨ai⟩
instance:aK prog 87:=⟨ai⟩
instance:aK prog 88:=⟨ai⟩
instance:aK prog 89:=⟨ai⟩
instance:aK prog 91:=⟨ai⟩
instance:aK prog 93:=⟨ai⟩
instance:aK prog 94:=⟨ai⟩
instance:aK prog 95:=⟨ai⟩
instance:aK prog 96:=⟨ai⟩
instance:aK prog 97:=⟨ai⟩
instance:aK prog 98:=⟨ai⟩
instance:aK prog 99:=⟨ai⟩
instance:aK prog 100:=⟨ai⟩
instance:aK prog 101:=⟨ai⟩
instance:aK prog 102:=⟨ai⟩
instance:aK prog 103:=⟨ai⟩
instance:aK prog 104:=⟨ai⟩
instance:aK prog 105:=⟨ai⟩
instance:aK prog 106:=⟨ai⟩
instance:aK prog 107:=⟨ai⟩
instance:aK prog 108:=⟨ai⟩
instance:aK prog 109:=⟨ai⟩
instance:aK prog 110:=⟨ai⟩
instance:aK prog 111:=⟨ai⟩
instance:aK prog 112:=⟨ai⟩
instance:aK prog 113:=⟨ai⟩
instance:aK prog 114:=⟨ai⟩
instance:aK prog 115:=⟨ai⟩
instance:aK prog 116:=⟨ai⟩
instance:aK prog 117:=⟨ai⟩
instance:aK prog 118:=⟨ai⟩
instance:aK prog 119:=⟨ai⟩
instance:aK prog 120:=⟨ai⟩
instance:aK prog 121:=⟨ai⟩
instance:aK prog 122:=⟨ai⟩
instance:aK prog 123:=⟨ai⟩
instance:aK prog 125:=⟨ai⟩
instance:aK prog 126:=⟨ai⟩
instance:aK prog 127:=⟨ai⟩
instance:aK prog 128:=⟨ai⟩
instance:aK prog 129:=⟨ai⟩
instance:aK prog 130:=⟨ai⟩
instance:aK prog 131:=⟨ai⟩
instance:aK prog 132:=⟨ai⟩
instance:aK prog 133:=⟨ai⟩
instance:aK prog 134:=⟨ai⟩
instance:aK prog 135:=⟨ai⟩
instance:aK prog 136:=⟨ai⟩
instance:aK prog 137:=⟨ai⟩
instance:aK prog 138:=⟨ai⟩
instance:aK prog 139:=⟨ai⟩
instance:aK prog 140:=⟨ai⟩
instance:aK prog 141:=⟨ai⟩
instance:aK prog 142:=⟨ai⟩
instance:aK prog 143:=⟨ai⟩
instance:aK prog 144:=⟨ai⟩
instance:aK prog 145:=⟨ai⟩
instance:aK prog 146:=⟨ai⟩
instance:aK prog 148:=⟨ai⟩
instance:aK prog 149:=⟨ai⟩
instance:aK prog 150:=⟨ai⟩
instance:aK prog 151:=⟨ai⟩
instance:aK prog 152:=⟨ai⟩
instance:aK prog 153:=⟨ai⟩
instance:aK prog 154:=⟨ai⟩
instance:aK prog 155:=⟨ai⟩
instance:aK prog 156:=⟨ai⟩
instance:aK prog 157:=⟨ai⟩
instance:aK prog 158:=⟨ai⟩
instance:aK prog 159:=⟨ai⟩
instance:aK prog 160:=⟨ai⟩
instance:aK prog 161:=⟨ai⟩
instance:aK prog 162:=⟨ai⟩
instance:aK prog 163:=⟨ai⟩
instance:aK prog 164:=⟨ai⟩
instance:aK prog 165:=⟨ai⟩
instance:aK prog 166:=⟨ai⟩
instance:aK prog 167:=⟨ai⟩
instance:aK prog 168:=⟨ai⟩
instance:aK prog 169:=⟨ai⟩
instance:aK prog 170:=⟨ai⟩
instance:aK prog 171:=⟨ai⟩
instance:aK prog 172:=⟨ai⟩
instance:aK prog 173:=⟨ai⟩
instance:aK prog 176:=⟨ai⟩
instance:aK prog 177:=⟨ai⟩
instance:aK prog 178:=⟨ai⟩
instance:aK prog 179:=⟨ai⟩
instance:aK prog 180:=⟨ai⟩
instance:aK prog 181:=⟨ai⟩
instance:aK prog 182:=⟨ai⟩
instance:aK prog 183:=⟨ai⟩
instance:aK prog 184:=⟨ai⟩
instance:aK prog 185:=⟨ai⟩
instance:aK prog 186:=⟨ai⟩
instance:aK prog 187:=⟨ai⟩
instance:aK prog 188:=⟨ai⟩
instance:aK prog 189:=⟨ai⟩
instance:aK prog 190:=⟨ai⟩
instance:aK prog 191:=⟨ai⟩
instance:aK prog 192:=⟨ai⟩
instance:aK prog 194:=⟨ai⟩
instance:aK prog 195:=⟨ai⟩
instance:aK prog 196:=⟨ai⟩
instance:aK prog 197:=⟨ai⟩
instance:aK prog 198:=⟨ai⟩
instance:aK prog 199:=⟨ai⟩
instance:aK prog 200:=⟨ai⟩
instance:aK prog 202:=⟨ai⟩
instance:aK prog 204:=⟨ai⟩
instance:aK prog 205:=⟨ai⟩
instance:aK prog 206:=⟨ai⟩
instance:aK prog 207:=⟨ai⟩
instance:aK prog 208:=⟨ai⟩
instance:aK prog 209:=⟨ai⟩
instance:aK prog 210:=⟨ai⟩
instance:aK prog 222:=⟨ai⟩
instance:aK prog 223:=⟨ai⟩
instance:aK prog 224:=⟨ai⟩
instance:aK prog 225:=⟨ai⟩
instance:aK prog 226:=⟨ai⟩
instance:aK prog 227:=⟨ai⟩
instance:aK prog 228:=⟨ai⟩
instance:aK prog 229:=⟨ai⟩
instance:aK prog 230:=⟨ai⟩
instance:aK prog 231:=⟨ai⟩
instance:aK prog 232:=⟨ai⟩
instance:aK prog 233:=⟨ai⟩
instance:aK prog 234:=⟨ai⟩
instance:aK prog 235:=⟨ai⟩
instance:aK prog 236:=⟨ai⟩
instance:aK prog 238:=⟨ai⟩
instance:aK prog 240:=⟨ai⟩
instance:aK prog 245:=⟨ai⟩
instance:aK prog 246:=⟨ai⟩
instance:aK prog 247:=⟨ai⟩
instance:aK prog 248:=⟨ai⟩
instance:aK prog 255:=⟨ai⟩
instance:aK prog 258:=⟨ai⟩
instance:aK prog 259:=⟨ai⟩
instance:aK prog 260:=⟨ai⟩
instance:aK prog 261:=⟨ai⟩
instance:aK prog 262:=⟨ai⟩
instance:aK prog 263:=⟨ai⟩
instance:aK prog 271:=⟨ai⟩
instance:aK prog 272:=⟨ai⟩
instance:aK prog 275:=⟨ai⟩
instance:aK prog 276:=⟨ai⟩
instance:aK prog 277:=⟨ai⟩
instance:aK prog 282:=⟨ai⟩
instance:aK prog 285:=⟨ai⟩
instance:aK prog 286:=⟨ai⟩
instance:aK prog 289:=⟨ai⟩
instance:aK prog 290:=⟨ai⟩
instance:aK prog 291:=⟨ai⟩
instance:Ty prog 3 false 1:=⟨ai,ai⟩
instance:rL prog 3 (.int .i64 (0)):=⟨ai⟩
instance:Go.Xg.Mb prog 3 .i64:=⟨ai⟩
instance:Go.Xg.Mb prog 5 .u8:=⟨ai⟩
instance:Ty prog 9 false 1:=⟨ai,ai⟩
instance:rK prog 9:=⟨ai⟩
instance:Ty prog 22 false 1:=⟨ai,ai⟩
instance:rL prog 22 (.slice none 0 0):=⟨ai⟩
instance:oP prog 22 9 1:=⟨ai,ai⟩
instance:qd prog 22 9 1 16:=⟨ai⟩
instance:rJ prog 22 9 1 [(.string ⟨#[]⟩)]:=⟨ai,ai,ai,rfl,by decide,fun _=>rfl⟩
instance:Ty prog 23 false 1:=⟨ai,ai⟩
instance:oP prog 23 101 2:=⟨ai,ai⟩
instance:Ty prog 24 false 1:=⟨ai,ai⟩
instance:oP prog 24 103 3:=⟨ai,ai⟩
instance:Ty prog 25 false 1:=⟨ai,ai⟩
instance:oP prog 25 105 5:=⟨ai,ai⟩
instance:Ty prog 27 true 4:=⟨ai,ai⟩
instance:ef prog 27 0 0 1 false:=⟨ai⟩
instance:ef prog 27 1 1 1 false:=⟨ai⟩
instance:ef prog 27 2 2 1 false:=⟨ai⟩
instance:ef prog 27 3 3 1 false:=⟨ai⟩
instance:Ty prog 29 false 1:=⟨ai,ai⟩
instance:oP prog 29 56 2:=⟨ai,ai⟩
instance:qd prog 29 56 2 24:=⟨ai⟩
instance:rJ prog 29 56 2 [(.string ⟨#[]⟩),(.int .i64 (0))]:=⟨ai,ai,ai,rfl,by decide,fun h=>by cases h⟩
instance:Ty prog 30 false 1:=⟨ai,ai⟩
instance:oP prog 30 58 3:=⟨ai,ai⟩
instance:qd prog 30 58 3 48:=⟨ai⟩
instance:rJ prog 30 58 3 [(.string ⟨#[]⟩),(.slice none 0 0),(.int .i64 (0))]:=⟨ai,ai,ai,rfl,by decide,fun h=>by cases h⟩
instance:Ty prog 31 false 1:=⟨ai,ai⟩
instance:oP prog 31 62 5:=⟨ai,ai⟩
instance:qd prog 31 62 5 64:=⟨ai⟩
instance:rJ prog 31 62 5 [(.int .i64 (0)),(.int .i64 (0)),(.int .i64 (0)),(.string ⟨#[]⟩),(.slice none 0 0)]:=⟨ai,ai,ai,rfl,by decide,fun h=>by cases h⟩
instance:Ty prog 33 true 4:=⟨ai,ai⟩
instance:rL prog 33 (.agg #[(.slice none 0 0),(.slice none 0 0),(.slice none 0 0),(.slice none 0 0)]):=⟨ai⟩
instance:ef prog 33 0 0 1 false:=⟨ai⟩
instance:ef prog 33 1 1 1 false:=⟨ai⟩
instance:ef prog 33 2 2 1 false:=⟨ai⟩
instance:ef prog 33 3 3 1 false:=⟨ai⟩
instance:vW prog 33 [(0,1),(1,1),(2,1),(3,1)] [(.slice none 0 0),(.slice none 0 0),(.slice none 0 0),(.slice none 0 0)]:=⟨ai,ai⟩
instance:Ty prog 56 true 2:=⟨ai,ai⟩
instance:rL prog 56 (.agg #[(.string ⟨#[]⟩),(.int .i64 (0))]):=⟨ai⟩
instance:ef prog 56 0 0 1 false:=⟨ai⟩
instance:ef prog 56 1 1 1 false:=⟨ai⟩
instance:vW prog 56 [(0,1),(1,1)] [(.string ⟨#[]⟩),(.int .i64 (0))]:=⟨ai,ai⟩
instance:Ty prog 58 true 3:=⟨ai,ai⟩
instance:rL prog 58 (.agg #[(.string ⟨#[]⟩),(.slice none 0 0),(.int .i64 (0))]):=⟨ai⟩
instance:ef prog 58 0 0 1 false:=⟨ai⟩
instance:ef prog 58 1 1 1 false:=⟨ai⟩
instance:ef prog 58 2 2 1 false:=⟨ai⟩
instance:vW prog 58 [(0,1),(1,1),(2,1)] [(.string ⟨#[]⟩),(.slice none 0 0),(.int .i64 (0))]:=⟨ai,ai⟩
instance:Ty prog 60 false 1:=⟨ai,ai⟩
instance:rL prog 60 (.slice none 0 0):=⟨ai⟩
instance:oP prog 60 3 1:=⟨ai,ai⟩
instance:qd prog 60 3 1 8:=⟨ai⟩
instance:rJ prog 60 3 1 [(.int .i64 (0))]:=⟨ai,ai,ai,rfl,by decide,fun _=>rfl⟩
instance:Ty prog 62 true 5:=⟨ai,ai⟩
instance:rL prog 62 (.agg #[(.int .i64 (0)),(.int .i64 (0)),(.int .i64 (0)),(.string ⟨#[]⟩),(.slice none 0 0)]):=⟨ai⟩
instance:ef prog 62 0 0 1 false:=⟨ai⟩
instance:ef prog 62 1 1 1 false:=⟨ai⟩
instance:ef prog 62 2 2 1 false:=⟨ai⟩
instance:ef prog 62 3 3 1 false:=⟨ai⟩
instance:ef prog 62 4 4 1 false:=⟨ai⟩
instance:vW prog 62 [(0,1),(1,1),(2,1),(3,1),(4,1)] [(.int .i64 (0)),(.int .i64 (0)),(.int .i64 (0)),(.string ⟨#[]⟩),(.slice none 0 0)]:=⟨ai,ai⟩
instance:Ty prog 63 false 1:=⟨ai,ai⟩
instance:oP prog 63 65 6:=⟨ai,ai⟩
instance:qd prog 63 65 6 88:=⟨ai⟩
instance:rJ prog 63 65 6 [(.int .i64 (0)),(.int .i64 (0)),(.int .i64 (0)),(.string ⟨#[]⟩),(.slice none 0 0),(.slice none 0 0)]:=⟨ai,ai,ai,rfl,by decide,fun h=>by cases h⟩
instance:Ty prog 65 true 6:=⟨ai,ai⟩
instance:rL prog 65 (.agg #[(.int .i64 (0)),(.int .i64 (0)),(.int .i64 (0)),(.string ⟨#[]⟩),(.slice none 0 0),(.slice none 0 0)]):=⟨ai⟩
instance:ef prog 65 0 0 5 true:=⟨ai⟩
instance:ef prog 65 1 5 1 false:=⟨ai⟩
instance:vW prog 65 [(0,5),(5,1)] [(.int .i64 (0)),(.int .i64 (0)),(.int .i64 (0)),(.string ⟨#[]⟩),(.slice none 0 0),(.slice none 0 0)]:=⟨ai,ai⟩
instance:Ty prog 76 false 1:=⟨ai,ai⟩
instance:Ty prog 89 false 1:=⟨ai,ai⟩
instance:oP prog 89 131 1:=⟨ai,ai⟩
instance:qd prog 89 131 1 8:=⟨ai⟩
instance:rJ prog 89 131 1 [(.pointer none)]:=⟨ai,ai,ai,rfl,by decide,fun _=>rfl⟩
instance:Ty prog 101 true 2:=⟨ai,ai⟩
instance:ef prog 101 0 0 1 false:=⟨ai⟩
instance:ef prog 101 1 1 1 false:=⟨ai⟩
instance:Ty prog 103 true 3:=⟨ai,ai⟩
instance:ef prog 103 0 0 1 false:=⟨ai⟩
instance:ef prog 103 1 1 1 false:=⟨ai⟩
instance:ef prog 103 2 2 1 false:=⟨ai⟩
instance:Ty prog 105 true 5:=⟨ai,ai⟩
instance:ef prog 105 0 0 1 false:=⟨ai⟩
instance:ef prog 105 1 1 1 false:=⟨ai⟩
instance:ef prog 105 2 2 1 false:=⟨ai⟩
instance:ef prog 105 3 3 1 false:=⟨ai⟩
instance:ef prog 105 4 4 1 false:=⟨ai⟩
instance:Ty prog 118 false 1:=⟨ai,ai⟩
instance:rL prog 118 .nilFunc:=⟨ai⟩
instance:ef prog 126 0 0 4 true:=⟨ai⟩
instance:ef prog 126 1 4 1 false:=⟨ai⟩
instance:ef prog 126 2 5 1 false:=⟨ai⟩
instance:ef prog 126 3 6 1 false:=⟨ai⟩
instance:vW prog 126 [(0,4),(4,1),(5,1),(6,1)] [(.slice none 0 0),(.slice none 0 0),(.slice none 0 0),(.slice none 0 0),(.slice none 0 0),(.int .i64 (0)),(.int .i64 (0))]:=⟨ai,ai⟩
instance:Ty prog 131 false 1:=⟨ai,ai⟩
instance:Ty prog 134 false 1:=⟨ai,ai⟩
instance:Ty prog 135 false 1:=⟨ai,ai⟩
instance:Ty prog 136 false 1:=⟨ai,ai⟩
instance:oP prog 136 183 4:=⟨ai,ai⟩
instance:qd prog 136 183 4 40:=⟨ai⟩
instance:rJ prog 136 183 4 [(.int .i64 (0)),(.int .i64 (0)),(.string ⟨#[]⟩),(.int .i64 (0))]:=⟨ai,ai,ai,rfl,by decide,fun h=>by cases h⟩
instance:Ty prog 157 false 1:=⟨ai,ai⟩
instance:Go.Xg.NG prog 157:=Go.Xg.NG.mk' (e:=5) (ai) (ai)
instance:oP prog 157 5 1:=⟨ai,ai⟩
instance:rJ prog 157 5 1 [(.int .u8 (0))]:=⟨ai,ai,ai,rfl,by decide,fun _=>rfl⟩
instance:ef prog 164 0 0 1 false:=⟨ai⟩
instance:ef prog 164 1 1 1 false:=⟨ai⟩
instance:ef prog 164 2 2 1 false:=⟨ai⟩
instance:ef prog 164 3 3 1 false:=⟨ai⟩
instance:ef prog 164 4 4 1 false:=⟨ai⟩
instance:vW prog 164 [(0,1),(1,1),(2,1),(3,1),(4,1)] [(.slice none 0 0),(.int .i64 (0)),(.int .i64 (0)),(.int .i64 (0)),(.int .i64 (0))]:=⟨ai,ai⟩
instance:ef prog 170 0 0 5 true:=⟨ai⟩
instance:ef prog 170 1 5 1 false:=⟨ai⟩
instance:vW prog 170 [(0,5),(5,1)] [(.int .i64 (0)),(.int .i64 (0)),(.int .i64 (0)),(.string ⟨#[]⟩),(.slice none 0 0),(.slice none 0 0)]:=⟨ai,ai⟩
instance:Ty prog 172 true 2:=⟨ai,ai⟩
instance:rL prog 172 (.agg #[.nilFunc,.nilFunc]):=⟨ai⟩
instance:ef prog 172 0 0 1 false:=⟨ai⟩
instance:ef prog 172 1 1 1 false:=⟨ai⟩
instance:vW prog 172 [(0,1),(1,1)] [.nilFunc,.nilFunc]:=⟨ai,ai⟩
instance:Ty prog 183 true 4:=⟨ai,ai⟩
instance:rL prog 183 (.agg #[(.int .i64 (0)),(.int .i64 (0)),(.string ⟨#[]⟩),(.int .i64 (0))]):=⟨ai⟩
instance:ef prog 183 0 0 1 false:=⟨ai⟩
instance:ef prog 183 1 1 1 false:=⟨ai⟩
instance:ef prog 183 2 2 1 false:=⟨ai⟩
instance:ef prog 183 3 3 1 false:=⟨ai⟩
instance:vW prog 183 [(0,1),(1,1),(2,1),(3,1)] [(.int .i64 (0)),(.int .i64 (0)),(.string ⟨#[]⟩),(.int .i64 (0))]:=⟨ai,ai⟩
instance:ef prog 188 0 0 1 false:=⟨ai⟩
instance:ef prog 188 1 1 1 false:=⟨ai⟩
instance:ef prog 188 2 2 1 false:=⟨ai⟩
instance:ef prog 188 3 3 1 false:=⟨ai⟩
instance:ef prog 188 4 4 1 false:=⟨ai⟩
instance:ef prog 188 5 5 1 false:=⟨ai⟩
instance:ef prog 188 6 6 4 true:=⟨ai⟩
instance:vW prog 188 [(0,1),(1,1),(2,1),(3,1),(4,1),(5,1),(6,4)] [(.slice none 0 0),(.int .i64 (0)),(.int .i64 (0)),(.int .i64 (0)),(.int .i64 (0)),(.slice none 0 0),(.slice none 0 0),(.slice none 0 0),(.slice none 0 0),(.slice none 0 0)]:=⟨ai,ai⟩
instance:Ty prog 202 false 1:=⟨ai,ai⟩
instance:rL prog 204 (.agg #[(.pointer none),(.slice none 0 0)]):=⟨ai⟩
instance:ef prog 204 0 0 1 false:=⟨ai⟩
instance:ef prog 204 1 1 1 false:=⟨ai⟩
instance:oP prog 211 22 1:=⟨ai,ai⟩
instance:rJ prog 211 22 1 [(.slice none 0 0)]:=⟨ai,ai,ai,rfl,by decide,fun _=>rfl⟩
end Go.Xw
set_option maxHeartbeats 1000000
namespace Go.Xg
open Go.RowKit Go.Xw Go.Proofs Tryz Go.Sp
open GV (U)
open Go.Xp (Tok Nd T bD one levels)
attribute [local irreducible] GW GL GO YG GC GA aW aZ
def dP (t:Tok):List GV:=[.v (ii t.kind),.v (ii t.n),.v (sv t.s),.v (ii t.at_)]
theorem Ru (t:Tok):GF prog 233 [.agg (dP t)] [] (.v (sv (bD t))) []:=by
 refine ah func233 ntmps233 ?_;refine GW.cond rfl (fun h=>?_) (fun h=>?_)
 ·refine zc5 ?_
  have h:t.kind≠3:=by simpa using h
  rw [bD,F h];exact zai
 ·refine zc5 ?_
  have h:t.kind=3:=by simpa using h
  rw [bD,ab h];exact zai
abbrev jV (l:List Tok):GV:=.sl 4 (l.map dP)
abbrev cQ (p:RS):Ob:=.box 164 [jV p.l,.v (ii p.i),.v (ii p.e),.v (ii p.code),.v (ii p.at_)]
theorem me {l:List Tok} {i:Nat} {t:Tok} (h:l[i]?=some t):(l.map dP)[i]?=some (dP t):=by rw [aS,h];rfl
theorem mz (p:RS) (hp:p.ok):GF prog 189 [.loc 0 0] [cQ p] (.v (ii p.place)) [cQ p]:=by
 obtain ⟨lE,et⟩:=hp
 cases ht:p.l[p.i]? with
 | some t =>
  have hr:=me ht;have aj:p.i < p.l.length:=(bq ht).1
  have hd:decide ((p.i:Int) < ((p.l.map dP).length:Int))=true:=by simpa using aj
  refine ah func189 ntmps189 ?_;refine aL (aE 0 10 .nil) ?_;refine bo ?_;refine aL (aE 0 12 .nil) ?_;refine bo ?_;refine cH ?_;rw [RS.place,ht];exact zai
 | none =>
  have aj:p.l.length<=p.i:=qo ht
  have hd:decide ((p.i:Int) < ((p.l.map dP).length:Int))=false:=by simpa using aj
  refine ah func189 ntmps189 ?_;refine aL (aE 0 10 .nil) ?_;refine bo ?_;refine cH ?_;rw [RS.place,ht];exact zai
theorem dM (p:RS) (k:Nat) (hp:p.ok) (hk:k<=1):GF prog 191 [.loc 0 0,.v (ii k)] [cQ p] (.v (sv (p.sign k))) [cQ p]:=by
 obtain ⟨lE,et⟩:=hp
 by_cases hc:p.code=0
 ·have eg:(p.code != 0)=false:=by simpa using hc
  cases ht:p.l[p.i+k]? with
  | some t =>
   have hr:=me ht;have aj:p.i+k < p.l.length:=(bq ht).1
   have hd:decide (((p.l.map dP).length:Int)<=((p.i+k:Nat):Int))=false:=by simp;omega
   refine ah func191 ntmps191 ?_;refine aL (aE 0 19 .nil) ?_;refine bo ?_;refine aL (aE 0 12 (.a 12 (.q 13 .nil))) ?_;refine ao ?_;refine aI [] (Ru t) ?_;refine zc5 ?_;rw [RS.sign,ab hc,ht];exact zai
  | none =>
   have aj:p.l.length<=p.i+k:=qo ht
   have hd:decide (((p.l.map dP).length:Int)<=((p.i+k:Nat):Int))=true:=by simp;omega
   refine ah func191 ntmps191 ?_;refine aL (aE 0 19 .nil) ?_;refine bo ?_;refine cH ?_;rw [RS.sign,ab hc,ht];exact zai
 ·have eg:(p.code != 0)=true:=by simpa using hc
  refine ah func191 ntmps191 ?_;refine aL (aE 0 19 .nil) ?_;refine bo ?_;refine cH ?_;rw [RS.sign,F hc];exact zai
theorem nR (p:RS) (c a:Int):GF prog 232 [.loc 0 0,.v (ii c),.v (ii a)] [cQ p] (.tup []) [cQ (p.fail c a)]:=by
 refine ah func232 ntmps232 ?_;refine GW.cond rfl (fun h=>?_) (fun h=>?_)
 ·refine D ?_;refine cM ?_
  have h:p.code=0:=by simpa using h
  rw [RS.fail,ab h];exact zai
 ·refine D ?_;refine cM ?_
  have h:¬ p.code=0:=by simpa using h
  rw [RS.fail,F h];exact zai
theorem dL (p:RS) (s:ae) (hp:p.ok) (hs:s≠[]):GF prog 190 [.loc 0 0,.v (sv s)] [cQ p] (.tup []) [cQ (p.aV s)]:=by
 refine ah func190 ntmps190 ?_;refine iq [0] (dM p 0 hp aP) ?_
 by_cases h:p.sign 0=s
 ·have h':(!(p.sign 0==s))=false:=by simp [h]
  have hl:=(gS h hs).1;obtain ⟨lE,et⟩:=hp;refine D ?_;refine cM ?_;rw [RS.aV,ab h];exact zai
 ·have h':(!(p.sign 0==s))=true:=by simpa using h
  refine D ?_;refine V [0] (mz p hp) ?_;refine V [0] (nR p 7 p.place) ?_;refine cM ?_;rw [RS.aV,F h];exact zai
theorem wz (p:RS) (d:Nat) (hp:p.ok):GF prog 187 [.loc 0 0,.v (ii d)] [cQ p] (.tup []) [cQ (p.deep d)]:=by
 by_cases h:d > 60
 ·have h':decide ((60:Int) < (d:Int))=true:=by simp;omega
  refine ah func187 ntmps187 ?_;refine V [0] (mz p hp) ?_;refine V [0] (nR p 9 p.place) ?_;refine cM ?_;rw [RS.deep,ab h];exact zai
 ·have h':decide ((60:Int) < (d:Int))=false:=by simp;omega
  refine ah func187 ntmps187 ?_;refine cM ?_;rw [RS.deep,F h];exact zai
theorem Ab (p:RS) (hp:p.ok):GF prog 234 [.loc 0 0] [cQ p] (.v (sv p.name.1)) [cQ p.name.2]:=by
 obtain ⟨lE,et⟩:=id hp
 by_cases hc:p.code=0
 ·have eg:(p.code != 0)=false:=by simpa using hc
  cases ht:p.l[p.i]? with
  | some t =>
   have hr:=me ht;have aj:p.i < p.l.length:=(bq ht).1
   have hd:decide (((p.l.map dP).length:Int)<=(p.i:Int))=false:=by simp;omega
   by_cases hk:t.kind=2
   ·have nz:(t.kind != 2)=false:=by simpa using hk
    by_cases hs:t.s.length > 12
    ·have qh:decide ((12:Int) < (t.s.length:Int))=true:=by simp;omega
     refine ah func234 ntmps234 ?_;refine aL (aE 0 24 .nil) ?_;refine bo ?_;refine zcT ?_;refine V [0] (nR p 8 t.at_) ?_;refine cH ?_;rw [RS.name,ab hc,ht];simp only [ab hk,ab hs];exact zai
    ·have qh:decide ((12:Int) < (t.s.length:Int))=false:=by simp;omega
     refine ah func234 ntmps234 ?_;refine aL (aE 0 24 .nil) ?_;refine bo ?_;refine zcT ?_;refine cH ?_;rw [RS.name,ab hc,ht];simp only [ab hk,F hs];exact zai
   ·have nz:(t.kind != 2)=true:=by simpa using hk
    refine ah func234 ntmps234 ?_;refine zc6 ?_;simp only [F hk];exact zai
  | none =>
   have aj:p.l.length<=p.i:=qo ht
   have hd:decide (((p.l.map dP).length:Int)<=(p.i:Int))=true:=by simp;omega
   refine ah func234 ntmps234 ?_;refine zc6 ?_;exact zai
 ·have eg:(p.code != 0)=true:=by simpa using hc
  refine ah func234 ntmps234 ?_;refine cH ?_;rw [RS.name,F hc];exact zai
abbrev ints (l:List Int):GV:=.sl 1 (l.map fun i=>[.v (ii i)])
abbrev strs (l:List ae):GV:=.sl 1 (l.map fun s=>[.v (sv s)])
mutual
def W0:T->List GV
 | .mk n k=>[.v (ii n.kind),.v (ii n.at_),.v (ii n.n),.v (sv n.s),ints n.kids,.sl 6 (aQ k)]
def aQ:List T->List (List GV)
 | []=>[]
 | t::r=>W0 t::aQ r
end
abbrev cT (t:T):List GV:=[.v (ii t.n.kind),.v (ii t.n.at_),.v (ii t.n.n),.v (sv t.n.s),ints t.n.kids,.sl 6 (aQ t.kids)]
theorem uU (t:T):W0 t=cT t:=by
 cases t;rfl
theorem iL (k a:Int) (s:ae) (l:List T) (rows:List (List GV)) (h:aQ l=rows):GF prog 188 [.v (ii k),.v (ii a),.v (sv s),.sl 6 rows] [] (.agg (cT (one k a s l))) []:=by
 subst h;refine ah func188 ntmps188 ?_;refine tA ?_;exact zaV
theorem lp:GF prog 259 [] [] (.sl 1 (levels.map fun l=>[strs l])) []:=by
 refine ah func259 ntmps259 ?_
 iterate 10 (refine cx ?_)
 exact ax
theorem Ge {xs:List ae} {k:Nat} {s x:ae} (h:xs[k]?=some x):(xs.take (k+1)).contains s=((xs.take k).contains s || (x==s)):=by
 rw [bS,h,List.contains_append];show (_ || [x].contains s)=_
 congr 1
 exact zd2
theorem jk (xs:List ae) (s:ae) (hl:xs.length<=1099511627776):GF prog 25 [strs xs,.v (sv s)] [] (.v (.bool (xs.contains s))) []:=by
 refine ah func25 ntmps25 ?_;refine GW.range (xs.map fun s=>[GV.v (sv s)]).length (fun k fr Γ=>fr=[strs xs,.v (sv s),U,U,U,U,U,strs xs,.v (ii ((xs.map fun s=>[GV.v (sv s)]).length:Int)),.v (ii k),U,U,U,U,U,U,U]/\Γ=[]/\(xs.take k).contains s=false) ?_ zfR ?_ ?_ ?_
 ·exact lj
 ·exact jd
 ·rintro k _ _ aj ⟨rfl,rfl,hc⟩
  have aj:k < xs.length:=by simpa using aj
  have hx:xs[k]?=some xs[k]:=by simp [aj]
  have hr:(xs.map fun s=>[GV.v (sv s)])[k]?=some [.v (sv xs[k])]:=by simp [aj]
  have fk:=Ge (s:=s) hx;refine D ?_;refine GW.cond rfl (fun M=>?_) (fun M=>?_)
  ·refine zc5 ?_
   have h3:xs[k]=s:=by simpa using M
   have:s∈xs:=by rw [<-h3];exact getElem_mem _
   refine ⟨?_,rfl⟩;show GV.v (.bool true)=_;rw [il.2 this]
  ·refine D ?_;exact ⟨rfl,rfl,_,_,Wk.aC ak,rfl,rfl,by rw [fk,hc,M];rfl⟩
 ·rintro _ _ ⟨rfl,rfl,hc⟩;refine zc5 ?_
  have hc:xs.contains s=false:=by simpa using hc
  refine ⟨?_,rfl⟩;show GV.v (.bool false)=_;rw [hc]
end Go.Xg
namespace Go.Xg
open Go.RowKit Go.Xw
section
variable {P:Program} {m:Nat} {Q:dG} {fr:List GV} {Γ:List Ob}
theorem GW.UD {c y:Code} {B:Nat} (K:List GV->List Ob->Prop) (I:GW P m c (aZ B (aW (Bi m K) Q)) fr Γ) (M:∀ fr Γ,K fr Γ->GW P m y Q fr Γ):GW P m c (aZ B (aW (GW P m y Q) Q)) fr Γ:=by
 refine I.mono fun e fr Γ hq=>?_
 have key:∀ fr Γ,Bi m K fr Γ->GW P m y Q fr Γ:=fun fr Γ ⟨cy,aR,hw,hk⟩=>GW.wk hw (M _ _ hk)
 cases e with
 | normal=>exact key _ _ hq
 | exit n =>
  simp only [aZ] at hq |-;split
  ·rename_i hn;rw [ab hn] at hq;exact key _ _ hq
  ·rename_i hn;rw [F hn] at hq;exact hq
 | _=>exact hq
end
section
variable {P:Program} {fn:Func} {m:Nat} {R:GV->List Ob->Prop} {fr:List GV} {Γ:List Ob} {e:Exit}
theorem T0 {n:Nat} {t u:Tmp} {T:TypeId} {k:Nat} [hT:Ty P T true k] {i:Nat} {E:TypeId} {cs:List GV} {g:GV} (hr:fn.results=#[.cell t T,.tmp u]) (he:e=.normal\/e=.ret) (hg:cK fr t=.loc i 0) (bJ:Γ[i]?=some (.box E cs)) (hk:cs.length=k) (fR:cK fr u=g)
  (hm:m<=n) (hl:xK n (Γ.take n)=true) (mq:(GV.tup [.agg cs,g]).lt n=true) (h:R (.tup [.agg cs,g]) (Γ.take n)):rQ P fn m R e fr Γ :=
 ⟨he,fun B K β w l hB hI hF=>by
  obtain ⟨b,vs,I,M,h3,h4⟩:=hI.ob i _ bJ
  have hp:nth l t=.pointer (some ⟨b,0,none⟩):=by
   have:=hF.nth t;rw [hg] at this;generalize nth l t=v at this
   cases this with
   | loc _ _ b' bA=>rw [I] at bA;cases bA;rfl
  have lX:l.toArray.getD t undef=.pointer (some ⟨b,0,none⟩):=by rw [ku,hp]
  have Df:=nH (P:=P) (w:=w) (t:=T) (b:=b) (o:=0) (vs:=vs) (k:=k) zgt (fun j v hj=>by
   rw [cL,cell_of_row w b j _ E (0,0) M];simpa using hj)
  have yt:l[t]?.getD undef=.pointer (some ⟨b,0,none⟩):=by simpa using lX
  refine ⟨.tuple #[.agg vs.toArray,nth l u],K,gi (below n) β,.tup [.agg cs,g],Γ.take n,?_,hI.cut G hl,?_,h⟩
  ·rw [<-ku l u];simp [results,hr,yt,asAddr,Df]
  ·refine Rel.res ?_ mq;subst fR;have hc:bm K β [.agg vs.toArray,nth l u] [.agg cs,cK fr u]:=.cons (.agg vs cs h3.1 h3.2) (.cons (hF.nth u) .nil)
   exact .tup _ _ hc.1 hc.2⟩
theorem O0 {n:Nat} {t u s:Tmp} {T:TypeId} {k:Nat} [hT:Ty P T true k] {i:Nat} {E:TypeId} {cs:List GV} {g g':GV} (hr:fn.results=#[.cell t T,.tmp u,.tmp s]) (he:e=.normal\/e=.ret) (hg:cK fr t=.loc i 0) (bJ:Γ[i]?=some (.box E cs)) (hk:cs.length=k) (fR:cK fr u=g) (XT:cK fr s=g')
  (hm:m<=n) (hl:xK n (Γ.take n)=true) (mq:(GV.tup [.agg cs,g,g']).lt n=true) (h:R (.tup [.agg cs,g,g']) (Γ.take n)):rQ P fn m R e fr Γ :=
 ⟨he,fun B K β w l hB hI hF=>by
  obtain ⟨b,vs,I,M,h3,h4⟩:=hI.ob i _ bJ
  have hp:nth l t=.pointer (some ⟨b,0,none⟩):=by
   have:=hF.nth t;rw [hg] at this;generalize nth l t=v at this
   cases this with
   | loc _ _ b' bA=>rw [I] at bA;cases bA;rfl
  have lX:l.toArray.getD t undef=.pointer (some ⟨b,0,none⟩):=by rw [ku,hp]
  have Df:=nH (P:=P) (w:=w) (t:=T) (b:=b) (o:=0) (vs:=vs) (k:=k) zgt (fun j v hj=>by
   rw [cL,cell_of_row w b j _ E (0,0) M];simpa using hj)
  have yt:l[t]?.getD undef=.pointer (some ⟨b,0,none⟩):=by simpa using lX
  refine ⟨.tuple #[.agg vs.toArray,nth l u,nth l s],K,gi (below n) β,.tup [.agg cs,g,g'],Γ.take n,?_,hI.cut G hl,?_,h⟩
  ·rw [<-ku l u,<-ku l s];simp [results,hr,yt,asAddr,Df]
  ·refine Rel.res ?_ mq;subst fR XT;have hc:bm K β [.agg vs.toArray,nth l u,nth l s] [.agg cs,cK fr u,cK fr s]:=.cons (.agg vs cs h3.1 h3.2) (.cons (hF.nth u) (.cons (hF.nth s) .nil))
   exact .tup _ _ hc.1 hc.2⟩
end
open Go.Proofs Tryz Go.Sp
open GV (U)
open Go.Xp (Tok Nd T bD one levels)
attribute [local irreducible] GW GL GO YG GC GA aW aZ
abbrev E9 (c:UInt8):GV:=.v (.int .u8 (c.toNat:Int))
theorem yz (c:UInt8):GF prog 136 [E9 c] [] (.v (.bool (small c))) []:=by
 unfold small;refine c8 func136 ntmps136 ?_
 cases h:decide ((97:Int)<=(c.toNat:Int))
 all_goals
  exact ax
theorem yy (c:UInt8):GF prog 176 [E9 c] [] (.v (.bool (eS c))) []:=by
 unfold eS;refine c8 func176 ntmps176 ?_
 cases h:decide ((48:Int)<=(c.toNat:Int))
 all_goals
  exact ax
theorem FH (c:UInt8):GF prog 135 [E9 c] [] (.v (.bool (eI c))) []:=by
 unfold eI;have hs:=yz c;have hd:=yy c;generalize small c=b1 at *;generalize eS c=b2 at *;refine ah func135 ntmps135 ?_;refine iq [] hs ?_
 cases b1 with
 | true =>
  exact ax
 | false =>
  cases I:decide ((65:Int)<=(c.toNat:Int)) with
  | true =>
   cases M:decide ((c.toNat:Int)<=90) with
   | true =>
    exact ax
   | false =>
    refine D ?_;refine iq [] hd ?_
    cases b2 with
    | true =>
     exact ax
    | false =>
     exact ax
  | false =>
   refine D ?_;refine iq [] hd ?_
   cases b2 with
   | true =>
    exact ax
   | false =>
    exact ax
theorem qG (s t:ae) (a:Nat) (hs:s.length<=1152921504606846976) (ht:t.length<=1152921504606846976) (ha:a<=1152921504606846976) :
  GF prog 229 [.v (sv s),.v (ii (a:Nat)),.v (sv t)] [] (.v (.bool (bT s a t))) []:=by
 by_cases h:a+t.length<=s.length
 ·have h':decide (((a+t.length:Nat):Int)<=(s.length:Int))=true:=by simpa using by omega
  refine ah func229 ntmps229 ?_;refine cH ?_;unfold bT;rw [decide_eq_true h];exact zai
 ·have h':decide (((a+t.length:Nat):Int)<=(s.length:Int))=false:=by simpa using by omega
  refine ah func229 ntmps229 ?_;refine cH ?_;unfold bT;rw [decide_eq_false h];exact zai
theorem QI (s:ae) (a:Nat) (hs:s.length<=1099511627776) (ha:a<=s.length) :
  GF prog 185 [.v (sv s),.v (ii (a:Nat))] [] (.tup [.v (ii ((skip s (s.length+1) a).1:Nat)),.v (ii (skip s (s.length+1) a).2)]) []:=by
 generalize hR:skip s (s.length+1) a=R;refine ah func185 ntmps185 ?_;refine GW.loop (fun x:Nat × Nat=>x.1) (fun x fr Γ=>fr=[.v (sv s),.v (ii (x.2:Nat)),U,U,U,U,U,U,U,U,U,U,U,U,U,U,U,U,U,U,U,U,U,U,U,U,U,U,U,U,U,U,U,U,U,U,U,U,U,U,U,U,U,U,U,U,U,U,U,U,U,U,U,U,U,U,U,U,U,U,U,U,U]/\Γ=[]/\x.2<=s.length/\s.length < x.1+x.2/\skip s x.1 x.2=R) (s.length+1,a) ?_ ?_
 ·exact ⟨_,_,Wk.aC ak,rfl,rfl,ha,by simp;omega,hR⟩
 ·rintro ⟨f,a⟩ _ _ ⟨rfl,rfl,ha,hf,h⟩;simp only at ha hf h
  cases f with
  | zero=>omega
  | succ f =>
  rw [skip] at h
  cases hc:s[a]? with
  | none =>
   rw [hc] at h;simp only at h;subst h;have ny:s.length<=a:=qo hc
   have hd:decide ((a:Int) < (s.length:Int))=false:=by simpa using ny
   refine cm ?_;exact q9
  | some c =>
   rw [hc] at h;simp only at h;have aj:a < s.length:=(bq hc).1
   have hd:decide ((a:Int) < (s.length:Int))=true:=by simpa using aj
   have hb:eD c=(((c.toNat:Int)==32) || ((c.toNat:Int)==9) || ((c.toNat:Int)==10) || ((c.toNat:Int)==13)):=rfl
   by_cases ln:eD c=true
   ·rw [ab ln] at h;rw [hb] at ln;have HR:((c.toNat:Int)==32)=true\/(((c.toNat:Int)==32)=false/\((c.toNat:Int)==9)=true)\/(((c.toNat:Int)==32)=false/\((c.toNat:Int)==9)=false/\((c.toNat:Int)==10)=true) \/
      (((c.toNat:Int)==32)=false/\((c.toNat:Int)==9)=false/\((c.toNat:Int)==10)=false/\((c.toNat:Int)==13)=true):=by
     generalize ((c.toNat:Int)==32)=b1 at *;generalize ((c.toNat:Int)==9)=b2 at *;generalize ((c.toNat:Int)==10)=b3 at *;generalize ((c.toNat:Int)==13)=b4 at *;clear hb
     revert ln;cases b1 <;> cases b2 <;> cases b3 <;> cases b4 <;> simp
    clear hb ln
    rcases HR with k1 | ⟨k1,k2⟩ | ⟨k1,k2,k3⟩ | ⟨k1,k2,k3,k4⟩
    all_goals
     refine cm ?_;exact ⟨(f,a+1),⟨_,_,Wk.aC ak,rfl,rfl,by simp only;omega,by simp only;omega,h⟩,by simp⟩
   ·rw [F ln] at h;rw [hb] at ln
    have HR:((c.toNat:Int)==32)=false/\((c.toNat:Int)==9)=false/\((c.toNat:Int)==10)=false/\((c.toNat:Int)==13)=false:=by
     generalize ((c.toNat:Int)==32)=b1 at *;generalize ((c.toNat:Int)==9)=b2 at *;generalize ((c.toNat:Int)==10)=b3 at *;generalize ((c.toNat:Int)==13)=b4 at *;clear hb
     revert ln;cases b1 <;> cases b2 <;> cases b3 <;> cases b4 <;> simp
    clear hb ln;obtain ⟨k1,k2,k3,k4⟩:=HR
    by_cases pk:bT s a [47,42]=true
    ·rw [ab pk] at h;have ln:=la pk;have ln:a+2<=s.length:=ln
     have wm:(!bT s a [47,42])=false:=by rw [pk];rfl
     try simp only at h
     generalize he:fP s s.length (a+2)=e at h;refine D ?_;refine V [] (qG s [47,42] a G aP G) ?_;have Pe:=tG s s.length (a+2) G G;have Bz:=uI s s.length (a+2) G;rw [he] at Pe Bz;refine GW.UD (fun fr Γ=>fr=[.v (sv s),.v (ii (a:Nat)),U,U,U,U,.v (ii (e:Nat)),U,U,U,U,U,U,U,U,U,U,U,U,U,U,U,U,U,U,U,U,U,U,U,U,U,U,U,U,U,U,U,U,U,U,U,U,U,U,U,U,U,U,U,U,U,U,U,U,U,U,U,U,U,U,U,U]/\Γ=[]) ?_ ?_
     ·refine GW.loop (fun x:Nat × Nat=>x.1) (fun x fr Γ=>fr=[.v (sv s),.v (ii (a:Nat)),U,U,U,U,.v (ii (x.2:Nat)),U,U,U,U,U,U,U,U,U,U,U,U,U,U,U,U,U,U,U,U,U,U,U,U,U,U,U,U,U,U,U,U,U,U,U,U,U,U,U,U,U,U,U,U,U,U,U,U,U,U,U,U,U,U,U,U]/\Γ=[]/\x.2<=s.length/\fP s x.1 x.2=e) (s.length,a+2) ?_ ?_
      ·exact ⟨_,_,Wk.aC ak,rfl,rfl,by simp only;omega,he⟩
      ·rintro ⟨g,e'⟩ _ _ ⟨rfl,rfl,hle,vn⟩;simp only at hle vn
       by_cases hstop:e' < s.length
       ·have dW:decide ((e':Int) < (s.length:Int))=true:=by simpa using hstop
        cases rl:bT s e' [42,47] with
        | true =>
         have abe:(!bT s e' [42,47])=false:=by rw [rl];rfl
         have za:e'=e:=by
          cases g with
          | zero=>exact vn
          | succ g=>rw [fP,F (by rw [rl];simp)] at vn;exact vn
         subst za;refine D ?_;refine V [] (qG s [42,47] e' G aP G) ?_;refine kJ ?_;exact jw
        | false =>
         have abe:(!bT s e' [42,47])=true:=by rw [rl];rfl
         cases g with
         | zero=>exact absurd ⟨by rw [<-vn];exact hstop,by rw [<-vn];exact rl⟩ Pe
         | succ g =>
          rw [fP,ab ⟨hstop,rl⟩] at vn;refine D ?_;refine V [] (qG s [42,47] e' G aP G) ?_;exact ⟨(g,e'+1),⟨_,_,Wk.aC ak,rfl,rfl,hstop,vn⟩,by simp⟩
       ·have dW:decide ((e':Int) < (s.length:Int))=false:=by simp;omega
        have za:e'=e:=by
         cases g with
         | zero=>exact vn
         | succ g=>rw [fP,F (fun hh=>hstop hh.1)] at vn;exact vn
        subst za;refine cm ?_;exact jw
     ·rintro _ _ ⟨rfl,rfl⟩
      by_cases hle:s.length<=e
      ·rw [ab hle] at h
       have abw:decide ((s.length:Int)<=(e:Int))=true:=by simpa using hle
       subst h;exact q9
      ·rw [F hle] at h
       have abw:decide ((s.length:Int)<=(e:Int))=false:=by simp;omega
       have rl:bT s e [42,47]=true:=by
        cases rl:bT s e [42,47] with
        | true=>rfl
        | false=>exact absurd ⟨by omega,rl⟩ Pe
       have rl:=la rl;have rl:e+2<=s.length:=rl;refine cm ?_;exact ⟨(f,e+2),⟨_,_,Wk.aC ak,rfl,rfl,rl,by simp only;omega,h⟩,by simp⟩
    ·rw [F pk] at h
     have wm:(!bT s a [47,42])=true:=by simpa using pk
     subst h;refine D ?_;refine V [] (qG s [47,42] a G aP G) ?_;exact oe
theorem yA:GF prog 80 [] [] (strs words) []:=by
 refine ah func80 ntmps80 ?_;refine cx ?_;exact ax
theorem ML:GF prog 231 [] [] (strs cl) []:=by
 refine ah func231 ntmps231 ?_;refine cx ?_;exact ax
theorem PV (s:ae) (hs:s.length<=1099511627776):GF prog 79 [.v (sv s)] [] (.v (.bool (word s))) []:=by
 refine ah func79 ntmps79 ?_;refine GW.loop (fun a:Nat=>s.length - a) (fun a fr Γ=>fr=[.v (sv s),U,U,.v (ii (a:Nat)),U,U,U,U,U,U,U,U,U,U,U,U,U,U,U,U,U,U]/\Γ=[]/\a<=s.length/\(s.take a).all eI=true) 0 ?_ ?_
 ·exact ⟨_,_,Wk.aC ak,rfl,rfl,aO _,rfl⟩
 ·rintro a _ _ ⟨rfl,rfl,ha,ba⟩
  cases hc:s[a]? with
  | some c =>
   have aj:a < s.length:=(bq hc).1
   have hd:decide ((a:Int) < (s.length:Int))=true:=by simpa using aj
   have bR:(s.take (a+1)).all eI=((s.take a).all eI&&eI c):=by
    rw [bS,hc,List.all_append];simp
   have hp:=FH c
   cases hn:eI c with
   | true =>
    rw [hn] at hp;refine D ?_;refine V [] hp ?_;exact ⟨a+1,⟨_,_,Wk.aC ak,rfl,rfl,aj,by rw [bR,ba,hn];rfl⟩,by omega⟩
   | false =>
    rw [hn] at hp;refine D ?_;refine V [] hp ?_;refine cH ?_;refine ⟨?_,rfl⟩
    have hw:word s=false:=by
     have:s.all eI=false:=by
      rw [List.all_eq_false];exact ⟨c,br hc,by rw [hn];decide⟩
     unfold word;rw [this];rfl
    rw [hw];rfl
  | none =>
   have ny:s.length<=a:=qo hc
   have hd:decide ((a:Int) < (s.length:Int))=false:=by simpa using ny
   have ba:s.all eI=true:=by rw [jN ny] at ba;exact ba
   cases s with
   | nil =>
    exact zaF
   | cons c r =>
    have hr:(c::r)[0]?=some c:=rfl;refine zbA ?_;refine V [] (yz c) ?_;refine cH ?_;refine ⟨?_,rfl⟩;unfold word;rw [ba];rfl
theorem fc (s:ae) (hs:s.length<=1099511627776):GF prog 22 [.v (sv s)] [] (.v (.bool (bs s))) []:=by
 have hw:=PV s hs;unfold bs;generalize word s=b at *;refine ah func22 ntmps22 ?_;refine iq [] hw ?_
 cases b with
 | false =>
  exact ax
 | true =>
  by_cases qe:s.length<=12
  ·have aa9:decide ((s.length:Int)<=12)=true:=by simpa using by omega
   refine D ?_;refine V [] yA ?_;refine V [] (jk words s aP) ?_;refine cH ?_;rw [decide_eq_true qe];exact zai
  ·have aa9:decide ((s.length:Int)<=12)=false:=by simpa using by omega
   refine zc5 ?_;rw [decide_eq_false qe];exact zai
theorem Jz (s:ae) (a:Nat) (hs:s.length<=1099511627776) (ha:a<=s.length) :
  GF prog 230 [.v (sv s),.v (ii (a:Nat))] [] (.tup [.agg (dP ⟨1,(number s (s.length+1) 0 a).1,[],a⟩),.v (ii ((number s (s.length+1) 0 a).2:Nat))]) []:=by
 generalize hR:number s (s.length+1) 0 a=R;generalize ha0:a=a0 at *;refine ah func230 ntmps230 ?_;refine GW.loop (fun x:Nat × Int × Nat=>x.1) (fun x fr Γ=>fr=[.v (sv s),.v (ii (x.2.2:Nat)),U,U,.loc 0 0,U,.loc 1 0,U,U,U,U,U,U,U,U,U,U,U,U,U,U,U,U,U,U,U,U,U,U,U,U,U,U,U,U,U]/\Γ=[.box 183 [.v (ii 0),.v (ii 0),.v (sv []),.v (ii 0)],.box 183 (dP ⟨1,x.2.1,[],a0⟩)]/\x.2.2<=s.length/\s.length < x.1+x.2.2/\number s x.1 x.2.1 x.2.2=R/\0<=x.2.1/\x.2.1<=21474836479) (s.length+1,0,a0) ?_ ?_
 ·exact ⟨_,_,Wk.aC ak,rfl,rfl,by simp only;omega,by simp only;omega,by rw [<-hR],by simp,by simp⟩
 ·rintro ⟨f,n,a⟩ _ _ ⟨rfl,rfl,ha,hf,h,Fw,Dh⟩;simp only at ha hf h Fw Dh
  cases f with
  | zero=>omega
  | succ f =>
  rw [number] at h
  cases hc:s[a]? with
  | none =>
   rw [hc] at h;simp only at h;subst h;have ny:s.length<=a:=qo hc
   have hd:decide ((a:Int) < (s.length:Int))=false:=by simpa using ny
   refine zbA ?_;exact zff
  | some c =>
   rw [hc] at h;simp only at h;have aj:a < s.length:=(bq hc).1
   have hd:decide ((a:Int) < (s.length:Int))=true:=by simpa using aj
   have ov:=yy c
   cases hdc:eS c with
   | false =>
    rw [hdc] at ov;rw [F (by rw [hdc];simp)] at h;subst h;refine D ?_;refine V [] ov ?_;refine kJ ?_;refine D ?_;exact zff
   | true =>
    rw [hdc] at ov;rw [ab hdc] at h
    have zW:(48:Int)<=(c.toNat:Int)/\(c.toNat:Int)<=57:=by
     simp only [eS,aH,decide_eq_true_eq] at hdc;exact hdc
    by_cases hn:n<=2147483647
    ·rw [ab hn] at h
     have Dg:decide (n<=2147483647)=true:=by simpa using hn
     refine D ?_;refine V [] ov ?_;refine aL (aE 0 10 (.a 10 .nil)) ?_;refine bo ?_;exact ⟨(f,n * 10+((c.toNat:Int) - 48),a+1),⟨_,_,Wk.aC ak,rfl,rfl,aj,by simp only;omega,h,by simp only;omega,by simp only;omega⟩,by simp⟩
    ·rw [F hn] at h
     have Dg:decide (n<=2147483647)=false:=by simpa using hn
     refine D ?_;refine V [] ov ?_;exact ⟨(f,n,a+1),⟨_,_,Wk.aC ak,rfl,rfl,aj,by simp only;omega,h,Fw,Dh⟩,by simp⟩
theorem OI {xs:List ae} {p:ae->Bool} {k:Nat} {x:ae} (h:(xs.take k).find? p=none) (hx:xs[k]?=some x) (hp:p x=true):xs.find? p=some x:=by
 have aj:=(bq hx).1
 have:xs=xs.take k++x::xs.drop (k+1):=by
  have I:=List.take_append_drop k xs;rw [lT aj] at I;rw [(bq hx).2] at I;exact I.symm
 rw [this,List.find?_append,h];simp [List.find?_cons,hp]
theorem OH {xs:List ae} {p:ae->Bool} {k:Nat} {x:ae} (h:(xs.take k).find? p=none) (hx:xs[k]?=some x) (hp:p x=false):(xs.take (k+1)).find? p=none:=by
 rw [bS,hx,List.find?_append,h];simp [List.find?_cons,hp]
theorem JT:∀ x∈cl,x.length<=1152921504606846976:=by decide
theorem Sw (s:ae) (a:Nat) (c:UInt8) (hs:s.length<=1099511627776) (hc:s[a]?=some c) :
  GF prog 186 [.v (sv s),.v (ii (a:Nat))] [] (.tup [.agg (dP (ko s a c).1),.v (ii ((ko s a c).2:Nat))]) []:=by
 have aj:a < s.length:=(bq hc).1;have ov:=yy c;have gO:=yz c;unfold ko
 cases hdc:eS c with
 | true =>
  rw [hdc] at ov;rw [ab rfl];refine ah func186 ntmps186 ?_;refine V [] ov ?_;refine V [] (Jz s a hs G) ?_;exact zff
 | false =>
  rw [hdc] at ov;rw [F aP]
  cases hsc:small c with
  | true =>
   rw [hsc] at gO;rw [ab rfl];have hre:=rC s eI (s.length+1) a G G;have hw0:(s.take (fE s a)).drop a=gm s a:=rfl;have XQ:run s eI (s.length+1) a=fE s a:=rfl;rw [XQ] at hre;generalize he:fE s a=e at *;generalize hw:gm s a=w at *;have hw:=hw0;have he:=XQ;refine ah func186 ntmps186 ?_;refine V [] ov ?_;refine V [] gO ?_;refine GW.UD (fun fr Γ=>fr=[.v (sv s),.v (ii (a:Nat)),U,U,.loc 0 0,U,.v (ii (e:Nat)),U,U,U,U,U,U,U,U,U,U,U,U,U,U,U,U,U,U,U,U,U,U,U,U,U,U,U,U,U,U,U,U,U,U,U,U,U,U,U,U,U,U,U,U,U,U,U,U,U,U,U,U,U,U,U,U,U,U,U,U,U,U]/\Γ=[.box 183 [.v (ii 0),.v (ii 0),.v (sv []),.v (ii 0)]]) ?_ ?_
   ·refine GW.loop (fun x:Nat × Nat=>x.1) (fun x fr Γ=>fr=[.v (sv s),.v (ii (a:Nat)),U,U,.loc 0 0,U,.v (ii (x.2:Nat)),U,U,U,U,U,U,U,U,U,U,U,U,U,U,U,U,U,U,U,U,U,U,U,U,U,U,U,U,U,U,U,U,U,U,U,U,U,U,U,U,U,U,U,U,U,U,U,U,U,U,U,U,U,U,U,U,U,U,U,U,U,U]/\Γ=[.box 183 [.v (ii 0),.v (ii 0),.v (sv []),.v (ii 0)]]/\x.2<=s.length/\s.length < x.1+x.2/\run s eI x.1 x.2=e) (s.length+1,a) ?_ ?_
    ·exact ⟨_,_,Wk.aC ak,rfl,rfl,by simp only;omega,by simp only;omega,he⟩
    ·rintro ⟨f,b⟩ _ _ ⟨rfl,rfl,hb,hf,h⟩;simp only at hb hf h
     cases f with
     | zero=>omega
     | succ f =>
     rw [run] at h
     cases Bx:s[b]? with
     | none =>
      rw [Bx] at h;simp only at h;subst h;have ny:s.length<=b:=qo Bx
      have hd:decide ((b:Int) < (s.length:Int))=false:=by simpa using ny
      refine cm ?_;exact jw
     | some cb =>
      rw [Bx] at h;simp only at h;have rW:b < s.length:=(bq Bx).1
      have hd:decide ((b:Int) < (s.length:Int))=true:=by simpa using rW
      have hp:=FH cb
      cases hn:eI cb with
      | true =>
       rw [hn] at hp;rw [ab hn] at h;refine D ?_;refine V [] hp ?_;exact ⟨(f,b+1),⟨_,_,Wk.aC ak,rfl,rfl,rW,by simp only;omega,h⟩,by simp⟩
      | false =>
       rw [hn] at hp;rw [F (by rw [hn];decide)] at h;subst h;refine D ?_;refine V [] hp ?_;refine kJ ?_;exact jw
   ·rintro _ _ ⟨rfl,rfl⟩;obtain ⟨_,I,M⟩:=hre;refine D ?_;rw [hw];have Mz:=jk words w aP
    cases hcw:words.contains w with
    | true =>
     rw [hcw] at Mz;refine zdI ?_;rw [ab rfl];exact zai
    | false =>
     rw [hcw] at Mz;refine zdI ?_;rw [F aP];exact zai
  | false =>
   rw [hsc] at gO;rw [F aP];refine ah func186 ntmps186 ?_;refine V [] ov ?_;refine V [] gO ?_;refine V [] ML ?_;refine GW.range (cl.map fun s=>[GV.v (sv s)]).length (fun k fr Γ=>fr=[.v (sv s),.v (ii (a:Nat)),U,U,.loc 0 0,U,U,U,U,U,U,U,U,U,U,U,U,U,U,U,U,U,U,U,U,U,U,U,U,U,U,U,U,U,U,U,U,U,U,U,U,U,U,U,U,U,U,U,U,strs cl,.v (ii ((cl.map fun s=>[GV.v (sv s)]).length:Int)),.v (ii (k:Nat)),U,U,U,U,U,U,U,U,U,U,U,U,U,U,U,U,U]/\Γ=[.box 183 [.v (ii 0),.v (ii 0),.v (sv []),.v (ii 0)]]/\(cl.take k).find? (bT s a)=none) ?_ aP ?_ ?_ ?_
   ·exact lj
   ·exact jd
   ·rintro k _ _ hk ⟨rfl,rfl,hf⟩
    have hk:k < cl.length:=by simpa using hk
    have hx:cl[k]?=some cl[k]:=by simp [hk]
    have hr:(cl.map fun s=>[GV.v (sv s)])[k]?=some [.v (sv cl[k])]:=by simp [hk]
    have BI:=JT _ (getElem_mem hk);generalize cl[k]=x at *;have pk:=qG s x a G BI G
    cases hb:bT s a x with
    | true =>
     rw [hb] at pk;have XS:=OI hf hx hb;refine D ?_;refine V [] pk ?_;refine kU ?_;rw [XS];exact zai
    | false =>
     rw [hb] at pk;refine D ?_;refine V [] pk ?_;exact ⟨rfl,rfl,_,_,Wk.aC ak,rfl,rfl,OH hf hx hb⟩
   ·rintro _ _ ⟨rfl,rfl,hf⟩
    have hf:cl.find? (bT s a)=none:=by
     rw [jN zfL] at hf;exact hf
    refine D ?_;refine kU ?_;rw [hf];exact zai
theorem Tx {s:ae} {a:Nat} {c:UInt8} (hc:s[a]?=some c):a<=(ko s a c).2/\(ko s a c).2<=s.length:=by
 have aj:a < s.length:=(bq hc).1;unfold ko;split
 ·exact (yK s (s.length+1) 0 a G G).2
 ·split
  ·exact (rC s eI (s.length+1) a G G).2
  ·split
   ·rename_i x hx;have:=la (List.find?_some hx);exact ⟨Nat.le_add_right _ _,this⟩
   ·exact ⟨aD _,by omega⟩
theorem PY (s:ae) (l:List Tok) (hs:s.length<=1000000000000) (h:Go.Sp.jV s=some l) :
  GF prog 152 [.v (sv s)] [] (Go.Xg.jV l) []:=by
 rw [Go.Sp.jV] at h;have hsk:=QI s 0 G (aO _);have lF:=A8 s (s.length+1) 0 (aO _);generalize hS:skip s (s.length+1) 0=R at *;refine ah func152 ntmps152 ?_;refine pN ?_;refine D ?_;refine V [] hsk ?_;refine GW.loop (fun x:Nat × Nat × List Tok=>x.1) (fun x fr Γ=>∃ n rows,fr=[.v (sv s),U,U,.vec 0 n,.v (ii (x.2.1:Nat)),U,U,U,U,U,U,U,U,U,U,U,U,U,U,U,U,U,U,U,U,U,U,U,U,U,U,U,U,U,U]/\Γ=[.vec 183 4 0 rows]/\rows.length=n/\rows=x.2.2.map dP/\n+x.1<=s.length+2/\x.2.1<=s.length/\sA s x.1 x.2.1 x.2.2=some l) (s.length+2,R.1,[]) ?_ ?_
 ·exact ⟨_,_,Wk.aC ak,0,[],rfl,rfl,rfl,rfl,by simp,lF.2,h⟩
 ·rintro ⟨f,a,acc⟩ _ _ ⟨n,rows,rfl,rfl,hn,bI,tV,ha,h⟩;simp only at bI tV ha h
  cases f with
  | zero=>simp [sA] at h
  | succ f =>
  rw [sA] at h
  cases hc:s[a]? with
  | none =>
   rw [hc] at h;simp only at h;cases h;have ny:s.length<=a:=qo hc
   have hd:decide ((a:Int) < (s.length:Int))=false:=by simpa using ny
   subst bI;refine zbA ?_;refine GW.wk (Wk.iy (t:=2) rfl rfl rfl hn) ?_;exact al
  | some c =>
   rw [hc] at h;simp only at h;have aj:a < s.length:=(bq hc).1
   have hd:decide ((a:Int) < (s.length:Int))=true:=by simpa using aj
   have rq:=Tx hc;have eW:=Sw s a c G hc;generalize ko s a c=tk at *;have abJ:=QI s tk.2 G rq.2;have acC:=A8 s (s.length+1) tk.2 rq.2;generalize skip s (s.length+1) tk.2=R2 at *;refine D ?_;refine V [] eW ?_;refine zaX ?_;refine V [] abJ ?_;exact ⟨(f,R2.1,acc++[tk.1]),⟨_,_,(Wk.cut (n:=1) (dr rfl) rfl).trans (Wk.aC ak),_,_,rfl,rfl,by simp [hn],by rw [kK,bI];rfl,by simp only;omega,by simp only;omega,h⟩,by simp⟩
structure GJ (f:Nat):Prop where
 expr:∀ d p t q,p.ok->d+f<=4611686018427387904->mE f (.expr d) p=some (t,q)->GF prog 235 [.loc 0 0,.v (ii (d:Nat))] [cQ p] (.agg (cT t)) [cQ q]
 level:∀ k d p t q,p.ok->k<=9->d+f<=4611686018427387904->mE f (.level k d) p=some (t,q)->GF prog 263 [.loc 0 0,.v (ii (k:Nat)),.v (ii (d:Nat))] [cQ p] (.agg (cT t)) [cQ q]
 operand:∀ d p t q,p.ok->d+f<=4611686018427387904->mE f (.operand d) p=some (t,q)->GF prog 277 [.loc 0 0,.v (ii (d:Nat))] [cQ p] (.agg (cT t)) [cQ q]
 named:∀ a s d p t q,p.ok->d+f<=4611686018427387904->mE f (.named a s d) p=some (t,q)->GF prog 286 [.loc 0 0,.v (ii a),.v (sv s),.v (ii (d:Nat))] [cQ p] (.agg (cT t)) [cQ q]
 list:∀ d p l q,p.ok->d+f<=4611686018427387904->mL f d p=some (l,q)->GF prog 290 [.loc 0 0,.v (ii (d:Nat))] [cQ p] (.sl 6 (aQ l)) [cQ q]
theorem W3 {f:Nat} (C:GJ f) (d:Nat) (p:RS) (t:T) (q:RS) (hp:p.ok) (hd:d+(f+1)<=4611686018427387904) (h:mE (f+1) (.expr d) p=some (t,q)) :
  GF prog 235 [.loc 0 0,.v (ii (d:Nat))] [cQ p] (.agg (cT t)) [cQ q]:=by
 rw [mE] at h;refine ah func235 ntmps235 ?_;refine V [0] (wz p d hp) ?_;refine V [0] (C.level 0 d _ t q ((qa hp d).ok hp) G G h) ?_;exact ed
theorem Lb {k:Nat} (hk:k < 9):(levels.map fun l=>[strs l])[k]?=some [strs (levels.getD k [])]:=by
 have:k < levels.length:=hk;rw [aS,dq this,List.getD_eq_getElem?_getD,dq this];rfl
theorem Ep:∀ k,k < 9->(levels.getD k []).length<=1099511627776:=by decide
abbrev zT:List GV:=[.v (ii 0),.v (ii 0),.v (ii 0),.v (sv []),.v (.slice none 0 0),.v (.slice none 0 0)]
theorem VS {f:Nat} (C:∀ f',f'<=f->GJ f') (k d:Nat) (p:RS) (t:T) (q:RS) (hp:p.ok) (hk:k<=9) (hd:d+(f+1)<=4611686018427387904) (h:mE (f+1) (.level k d) p=some (t,q)) :
  GF prog 263 [.loc 0 0,.v (ii (k:Nat)),.v (ii (d:Nat))] [cQ p] (.agg (cT t)) [cQ q]:=by
 rw [mE] at h
 by_cases Dd:k=9
 ·subst Dd;rw [ab rfl] at h;refine ah func263 ntmps263 ?_;refine V [] lp ?_;refine V [0] ((C f (aD _)).operand (d+1) p t q hp G h) ?_;exact ed
 ·rw [F Dd] at h
  have abt:((k:Int)==9)=false:=by simp;omega
  cases he:mE f (.level (k+1) d) p with
  | none=>exact za2
  | some r =>
   obtain ⟨out,p1⟩:=r;rw [he] at h;simp only at h;have lE:=((wD f).1 _ _ _ _ hp he).ok hp;refine ah func263 ntmps263 ?_;refine V [] lp ?_;refine V [0] ((C f (aD _)).level (k+1) d p out p1 hp G G he) ?_;refine GW.loop (fun x:Nat × T × RS=>x.1) (fun x fr Γ=>fr=[.loc 0 0,.v (ii (k:Nat)),.v (ii (d:Nat)),U,U,U,.loc 1 0,.loc 2 0,U,U,U,U,U,U,U,U,U,U,U,U,U,U,U,U,U,U,U,U,U,U,U,U,U,U,U,U,U,U,U,U,U,U,U,U,U,U,U,U,U,U,U,U,U,U,U,U,U,U,U,U,U,U,U,U,U,U]/\Γ=[cQ x.2.2,.box 65 zT,.box 65 (cT x.2.1)]/\x.2.2.ok/\x.1<=f/\mE x.1 (.loop k d x.2.1) x.2.2=some (t,q)) (f,out,p1) ?_ ?_
   ·exact ⟨_,_,Wk.aC ak,rfl,rfl,lE,aD _,h⟩
   ·rintro ⟨g,out,p⟩ _ _ ⟨rfl,rfl,hp,Pm,h⟩;simp only at hp Pm h
    cases g with
    | zero=>simp [mE] at h
    | succ g =>
    rw [mE] at h
    have hk:k < 9:=by omega
    by_cases hc:p.code=0
    ·have eg:(p.code==0)=true:=by simpa using hc
     have KH:=Lb hk
     by_cases hit:(levels.getD k []).contains (p.sign 0)=true
     ·rw [ab ⟨hc,hit⟩] at h
      cases ht:p.l[p.i]? with
      | none=>rw [ht] at h;cases h
      | some tk =>
       rw [ht] at h;simp only at h;have aj:=(bq ht).1;have hr:=me ht;have cW:=hp.2
       cases hb:mE g (.level (k+1) d) p.next with
       | none=>exact za5
       | some r =>
        obtain ⟨b,p2⟩:=r;rw [hb] at h;simp only at h;have dK:=(ek aj).ok hp;have et:=((wD g).1 _ _ _ _ dK hb).ok dK;refine zbo ?_;refine D ?_;refine zcT ?_;refine aL (aE 0 9 (.a 9 (.a 10 (.a 11 (.a 12 .nil))))) ?_;refine ao ?_;refine aI [0] ((C g G).level (k+1) d p.next b p2 dK G G hb) ?_;refine zay ?_;refine qZ [] (iL 6 tk.at_ tk.s [out,b] _ qb) ?_;refine I7 ?_;refine bo ?_;exact ⟨(g,one 6 tk.at_ tk.s [out,b],p2),⟨_,_,(Wk.cut (n:=3) (dr rfl) rfl).trans (Wk.aC ak),rfl,rfl,et,by omega,h⟩,by simp⟩
     ·have hit:(levels.getD k []).contains (p.sign 0)=false:=by simpa using hit
      rw [F (by rw [hit];simp)] at h
      obtain ⟨rfl,rfl⟩:out=t/\p=q:=by simpa using h
      refine zbo ?_;refine cm ?_;exact lO
    ·have eg:(p.code==0)=false:=by simpa using hc
     rw [F (fun hh=>hc hh.1)] at h
     obtain ⟨rfl,rfl⟩:out=t/\p=q:=by simpa using h
     refine D ?_;refine aL (aE 0 6 (.q 7 (.q 10 (.a 6 (.q 8 (.q 9 (.a 11 (.a 12 (.q 13 .nil))))))))) ?_;refine bo ?_;refine kJ ?_;exact lO
theorem VY {f:Nat} (C:GJ f) (a:Int) (s:ae) (d:Nat) (p:RS) (t:T) (q:RS) (hp:p.ok) (hd:d+(f+1)<=4611686018427387904) (h:mE (f+1) (.named a s d) p=some (t,q)) :
  GF prog 286 [.loc 0 0,.v (ii a),.v (sv s),.v (ii (d:Nat))] [cQ p] (.agg (cT t)) [cQ q]:=by
 rw [mE] at h
 by_cases I:p.sign 0=[91]
 ·rw [ab I] at h
  have dx:(p.sign 0==[91])=true:=by simp [I]
  have aj:=(gS I aP).1;have cW:=hp.2;have dK:=(kH I aP).ok hp
  cases he:mE f (.expr (d+1)) p.next with
  | none=>exact za2
  | some r =>
   obtain ⟨b,p1⟩:=r;rw [he] at h;cases h;have lE:=((wD f).1 _ _ _ _ dK he).ok dK;refine ah func286 ntmps286 ?_;refine V [0] (dM p 0 hp aP) ?_;refine V [0] (C.expr (d+1) p.next b p1 dK G he) ?_;refine V [0] (dL p1 [93] lE aP) ?_;refine zak ?_;refine V [] (iL 3 a s [b] _ qb) ?_;exact ed
 ·rw [F I] at h
  have dx:(p.sign 0==[91])=false:=by simpa using I
  by_cases M:p.sign 0=[40]
  ·rw [ab M] at h
   have sF:(p.sign 0==[40])=true:=by simp [M]
   have aj:=(gS M aP).1;have cW:=hp.2;have dK:=(kH M aP).ok hp
   cases he:mL f (d+1) p.next with
   | none=>exact za2
   | some r =>
    obtain ⟨l,p1⟩:=r;rw [he] at h;cases h;refine ah func286 ntmps286 ?_;refine V [0] (dM p 0 hp aP) ?_;refine V [0] (C.list (d+1) p.next l q dK G he) ?_;refine V [] (iL 4 a s l _ rfl) ?_;exact ed
  ·rw [F M] at h
   have sF:(p.sign 0==[40])=false:=by simpa using M
   cases h;refine ah func286 ntmps286 ?_;refine V [0] (dM p 0 hp aP) ?_;refine V [] (iL 2 a s [] [] rfl) ?_;exact ed
theorem aX (l:List T):(aQ l).length=l.length:=by
 induction l with
 | nil=>rfl
 | cons a l ih=>simp [aQ,ih]
theorem wc (l:List T) (a:T):aQ (l++[a])=aQ l++[cT a]:=by
 induction l with
 | nil=>simp [aQ,uU]
 | cons b l ih=>simp [aQ,ih]
theorem YB {f:Nat} (C:∀ f',f'<=f->GJ f') (d:Nat) (p:RS) (l:List T) (q:RS) (hp:p.ok) (hd:d+(f+1)<=4611686018427387904) (h:mL (f+1) d p=some (l,q)) :
  GF prog 290 [.loc 0 0,.v (ii (d:Nat))] [cQ p] (.sl 6 (aQ l)) [cQ q]:=by
 rw [mL] at h
 by_cases I:p.sign 0=[41]
 ·rw [ab I] at h
  have dx:(!(p.sign 0==[41]))=false:=by simp [I]
  cases h;refine ah func290 ntmps290 ?_;refine pN ?_;refine zcp ?_;refine V [0] (dL p [41] hp aP) ?_;refine GW.wk (Wk.iy (t:=4) rfl rfl rfl rfl) ?_;exact al
 ·rw [F I] at h
  have dx:(!(p.sign 0==[41]))=true:=by simpa using I
  cases he:mE f (.expr d) p with
  | none=>exact za2
  | some r =>
   obtain ⟨a,p1⟩:=r;rw [he] at h;simp only at h;have lE:=((wD f).1 _ _ _ _ hp he).ok hp;refine ah func290 ntmps290 ?_;refine pN ?_;refine zcp ?_;refine V [0] ((C f (aD _)).expr d p a p1 hp G he) ?_;refine zaX ?_;refine GW.loop (fun x:Nat × List T × RS=>x.1) (fun x fr Γ=>∃ n rows,fr=[.loc 0 0,.v (ii (d:Nat)),U,U,U,.vec 1 n,U,U,U,U,U,U,U,U,U,U,U,U,U,U,U,U,U,U,U,U,U,U,U,U,U,U,U,U,U]/\Γ=[cQ x.2.2,.vec 65 6 0 rows]/\rows.length=n/\rows=aQ x.2.1/\n<=x.2.2.i+1/\x.2.2.ok/\x.1<=f/\vE x.1 d x.2.1 x.2.2=some (l,q)) (f,[a],p1) ?_ ?_
   ·exact ⟨_,_,Wk.aC ak,_,_,rfl,rfl,rfl,(by simp only [aQ,uU];rfl),(by show 1<=p1.i+1;omega),lE,aD _,h⟩
   ·rintro ⟨g,acc,p⟩ _ _ ⟨n,rows,rfl,rfl,hn,bI,XZ,hp,Pm,h⟩;simp only at bI XZ hp Pm h
    cases g with
    | zero=>simp [vE] at h
    | succ g =>
    rw [vE] at h;have cW:=hp.2;have Fy:=hp.1
    by_cases M:p.sign 0=[44]
    ·rw [ab M] at h
     have sF:(p.sign 0==[44])=true:=by simp [M]
     have aj:=(gS M aP).1;have dK:=(kH M aP).ok hp
     cases hb:mE g (.expr d) p.next with
     | none=>exact za5
     | some r =>
      obtain ⟨b,p2⟩:=r;rw [hb] at h;simp only at h;have Uu:=(wD g).1 _ _ _ _ dK hb;have et:=Uu.ok dK;have uA:p.i+1<=p2.i:=Uu.2.2.2;refine zcp ?_;refine V [0] ((C g G).expr d p.next b p2 dK G hb) ?_;refine zaX ?_;exact ⟨(g,acc++[b],p2),⟨_,_,Wk.aC ak,_,_,rfl,rfl,by simp [hn],by rw [wc,bI],by simp only;omega,et,by simp only;omega,h⟩,by simp⟩
    ·rw [F M] at h
     have sF:(p.sign 0==[44])=false:=by simpa using M
     obtain ⟨rfl,rfl⟩:acc=l/\p.aV [41]=q:=by simpa using h
     subst bI;refine zcp ?_;refine kJ ?_;refine D ?_;refine V [0] (dL p [41] hp aP) ?_;refine GW.wk (Wk.iy (t:=4) rfl rfl rfl hn) ?_;exact al
theorem Qo {f:Nat} (C:GJ f) (d:Nat) (p:RS) (t:T) (q:RS) (hp:p.ok) (hd:d+(f+1)<=4611686018427387904) (h:mE (f+1) (.operand d) p=some (t,q)) :
  GF prog 277 [.loc 0 0,.v (ii (d:Nat))] [cQ p] (.agg (cT t)) [cQ q]:=by
 rw [mE] at h;have mu:=(qa hp d).ok hp;have yo:=wz p d hp;generalize p.deep d=p1 at *
 try simp only at h
 obtain ⟨Fy,cW⟩:=id mu
 by_cases hc:p1.code=0
 ·rw [ab hc] at h
  have eg:(p1.code != 0)=false:=by simpa using hc
  cases ht:p1.l[p1.i]? with
  | none =>
   rw [ht] at h;cases h;have ny:p1.l.length<=p1.i:=qo ht
   have abo:decide (((p1.l.map dP).length:Int)<=(p1.i:Int))=true:=by simp;omega
   exact zby
  | some tk =>
   rw [ht] at h;simp only at h;have aj:p1.i < p1.l.length:=(bq ht).1
   have abo:decide (((p1.l.map dP).length:Int)<=(p1.i:Int))=false:=by simp;omega
   have hr:=me ht;have dK:=(ek aj).ok mu;refine ah func277 ntmps277 ?_;refine V [0] yo ?_;refine aL (aE 0 17 .nil) ?_;refine bo ?_;refine zcT ?_
   by_cases k1:tk.kind=1
   ·rw [ab k1] at h;cases h
    have k1':(tk.kind==1)=true:=by simpa using k1
    refine D ?_;refine tA ?_;exact zaV
   ·rw [F k1] at h
    have k1':(tk.kind==1)=false:=by simpa using k1
    by_cases k2:tk.kind=2
    ·rw [ab k2] at h
     have k2':(tk.kind==2)=true:=by simpa using k2
     refine D ?_;refine V [0] (Ab p1 mu) ?_;refine V [0] (C.named tk.at_ p1.name.1 d p1.name.2 t q ((tt mu).ok mu) G h) ?_;exact ed
    ·rw [F k2] at h
     have k2':(tk.kind==2)=false:=by simpa using k2
     by_cases s3:tk.s=[45]\/tk.s=[33]\/tk.s=[126]
     ·rw [ab s3] at h
      cases he:mE f (.operand (d+1)) p1.next with
      | none=>exact za2
      | some r =>
       obtain ⟨a,p2⟩:=r;rw [he] at h;cases h
       have s3':(tk.s==[45])=true\/((tk.s==[45])=false/\(tk.s==[33])=true)\/((tk.s==[45])=false/\(tk.s==[33])=false/\(tk.s==[126])=true):=by
        rcases s3 with s3 | s3 | s3
        ·exact .inl (by simp [s3])
        ·exact .inr (.inl (by simp [s3]))
        ·exact .inr (.inr (by simp [s3]))
       refine D ?_
       rcases s3' with e1 | ⟨e1,e2⟩ | ⟨e1,e2,e3⟩
       all_goals
        refine D ?_;refine aL (aE 0 7 (.a 7 (.a 8 (.a 9 (.a 10 .nil))))) ?_;refine ao ?_;refine aI [0] (C.operand (d+1) p1.next a q dK G he) ?_;refine zay ?_;refine qZ [] (iL 5 tk.at_ tk.s [a] _ qb) ?_;refine I7 ?_;refine ao ?_;exact lO
     ·rw [F s3] at h
      have e1:(tk.s==[45])=false:=by simp at s3;simpa using s3.1
      have e2:(tk.s==[33])=false:=by simp at s3;simpa using s3.2.1
      have e3:(tk.s==[126])=false:=by simp at s3;simpa using s3.2.2
      by_cases s4:tk.s=[40]
      ·rw [ab s4] at h
       have s4':(tk.s==[40])=true:=by simp [s4]
       cases he:mE f (.expr (d+1)) p1.next with
       | none=>exact za2
       | some r =>
        obtain ⟨a,p2⟩:=r;rw [he] at h;cases h;have et:=((wD f).1 _ _ _ _ dK he).ok dK;refine D ?_;refine V [0] (C.expr (d+1) p1.next t p2 dK G he) ?_;refine V [0] (dL p2 [41] et aP) ?_;exact ed
      ·rw [F s4] at h
       have s4':(tk.s==[40])=false:=by simpa using s4
       cases h;refine D ?_;refine V [0] (nR p1 7 tk.at_) ?_;refine tA ?_;exact zaV
 ·rw [F hc] at h
  have eg:(p1.code != 0)=true:=by simpa using hc
  cases h;exact zby
theorem rds (f:Nat):GJ f:=by
  induction f using Nat.strongRecOn with
  | _ f ih =>
   cases f with
   | zero=>exact ⟨fun d p t q _ _ h=>by simp [mE] at h,fun k d p t q _ _ _ h=>by simp [mE] at h,fun d p t q _ _ h=>by simp [mE] at h,fun a s d p t q _ _ h=>by simp [mE] at h,fun d p l q _ _ h=>by simp [mL] at h⟩
   | succ f =>
    have C:=ih f (Nat.lt_succ_self f)
    have Cs:∀ f',f'<=f->GJ f':=fun f' h=>ih f' (Nat.lt_succ_of_le h)
    exact ⟨fun d p t q hp hd h=>W3 C d p t q hp hd h,fun k d p t q hp hk hd h=>VS Cs k d p t q hp hk hd h,fun d p t q hp hd h=>Qo C d p t q hp hd h,fun a s d p t q hp hd h=>VY C a s d p t q hp hd h,fun d p l q hp hd h=>YB Cs d p l q hp hd h⟩
open Go.Xp (ja eN fp ei dR)
structure NY (f:Nat):Prop where
 block:∀ d p t q,p.ok->d+f<=1099511627776->mS f (.block d) p=some (t,q)->GF prog 153 [.loc 0 0,.v (ii (d:Nat))] [cQ p] (.agg (cT t)) [cQ q]
 stmt:∀ d p t q,p.ok->d+f<=1099511627776->mS f (.stmt d) p=some (t,q)->GF prog 192 [.loc 0 0,.v (ii (d:Nat))] [cQ p] (.agg (cT t)) [cQ q]
 cond:∀ a d p t q,p.ok->p.i < p.l.length->d+f<=1099511627776->mS f (.cond a d) p=some (t,q)->GF prog 236 [.loc 0 0,.v (ii a),.v (ii (d:Nat))] [cQ p] (.agg (cT t)) [cQ q]
theorem Ae (d:Nat) (p:RS) (t:T) (q:RS) (hp:p.ok) (hd:d<=1099511627777) (h:mX d p=some (t,q)):GF prog 235 [.loc 0 0,.v (ii (d:Nat))] [cQ p] (.agg (cT t)) [cQ q] :=
 (rds (fe p)).expr d p t q hp (by have:=hp.2;unfold fe;omega) h
theorem MM (k a:Int) (s:ae):GF prog 188 [.v (ii k),.v (ii a),.v (sv s),.v (.slice none 0 0)] [] (.agg [.v (ii k),.v (ii a),.v (ii 0),.v (sv s),ints [],.v (.slice none 0 0)]) []:=by
 refine ah func188 ntmps188 ?_;refine tA ?_;exact zaV
theorem Ve {f:Nat} (C:∀ f',f'<=f->NY f') (d:Nat) (p:RS) (t:T) (q:RS) (hp:p.ok) (hd:d+(f+1)<=1099511627776) (h:mS (f+1) (.block d) p=some (t,q)) :
  GF prog 153 [.loc 0 0,.v (ii (d:Nat))] [cQ p] (.agg (cT t)) [cQ q]:=by
 rw [mS] at h;have mu:=(qa hp d).ok hp;have yo:=wz p d hp;generalize p.deep d=p1 at *
 try simp only at h
 have sH:=(gz mu (s:=[123]) aP).ok mu
 cases he:mB f (d+1) [] (p1.aV [123]) with
 | none=>exact za2
 | some r =>
  obtain ⟨l,q1⟩:=r;rw [he] at h;cases h;generalize cW:p1.place=pl;refine ah func153 ntmps153 ?_;refine V [0] yo ?_;refine V [0] (mz p1 mu) ?_;refine V [] (MM 14 p1.place []) ?_;refine V [0] (dL p1 [123] mu aP) ?_;rw [cW];refine GW.wk (Wk.Ez (i:=2) (o:=5) 65 6 rfl rfl) ?_;refine GW.loop (fun x:Nat × List T × RS=>x.1) (fun x fr Γ=>∃ n rows,fr=[.loc 0 0,.v (ii (d:Nat)),U,U,.loc 1 0,.loc 2 0,U,U,U,U,U,U,U,U,U,U,U,U,U,U,U,U,U,U,U,U,U,U,U,U,U,U,U,U,U,U]/\Γ=[cQ x.2.2,.box 65 zT,.box 65 [.v (ii 14),.v (ii pl),.v (ii 0),.v (sv []),ints [],.vec 3 n],.vec 65 6 0 rows]/\rows.length=n/\rows=aQ x.2.1/\n+x.1<=f/\x.2.2.ok/\mB x.1 (d+1) x.2.1 x.2.2=some (l,q1)) (f,[],p1.aV [123]) ?_ ?_
  ·exact ⟨_,_,Wk.aC ak,0,[],rfl,rfl,rfl,rfl,by simp,sH,he⟩
  ·rintro ⟨g,acc,p⟩ _ _ ⟨n,rows,rfl,rfl,hn,bI,BG,hp,h⟩;simp only at bI BG hp h
   cases g with
   | zero=>simp [mB] at h
   | succ g =>
   rw [mB] at h
   by_cases hc:p.code=0
   ·have eg:(p.code==0)=true:=by simpa using hc
    by_cases hs:p.sign 0=[125]
    ·rw [F (fun hh=>hh.2 hs)] at h
     obtain ⟨rfl,rfl⟩:acc=l/\p=q1:=by simpa using h
     have qh:(!(p.sign 0==[125]))=false:=by simp [hs]
     subst bI;refine zcp ?_;refine kJ ?_;refine D ?_;exact zcH
    ·rw [ab ⟨hc,hs⟩] at h
     have qh:(!(p.sign 0==[125]))=true:=by simpa using hs
     cases hb:mS g (.stmt (d+1)) p with
     | none=>exact za5
     | some r =>
      obtain ⟨a,p2⟩:=r;rw [hb] at h;simp only at h;have et:=((MX g).1 _ _ _ _ hp (fun a d' h=>by cases h) hb).ok hp;refine zcp ?_;refine aL (aE 0 5 (.a 5 (.a 6 (.a 7 (.q 8 (.a 9 .nil)))))) ?_;refine ao ?_;refine aI [0] ((C g G).stmt (d+1) p a p2 hp G hb) ?_;refine zay ?_;refine tw ?_;refine bo ?_;exact ⟨(g,acc++[a],p2),⟨_,_,Wk.aC ak,_,_,rfl,rfl,by simp [hn],by rw [wc,bI];rfl,by show n+1+g<=f;omega,et,h⟩,by simp⟩
   ·have eg:(p.code==0)=false:=by simpa using hc
    rw [F (fun hh=>hc hh.1)] at h
    obtain ⟨rfl,rfl⟩:acc=l/\p=q1:=by simpa using h
    subst bI;refine zbA ?_;exact zcH
theorem WX {f:Nat} (C:NY f) (a:Int) (d:Nat) (p:RS) (t:T) (q:RS) (hp:p.ok) (aj:p.i < p.l.length) (hd:d+(f+1)<=1099511627776) (h:mS (f+1) (.cond a d) p=some (t,q)) :
  GF prog 236 [.loc 0 0,.v (ii a),.v (ii (d:Nat))] [cQ p] (.agg (cT t)) [cQ q]:=by
 rw [mS] at h
 try simp only at h
 have dK:=(ek aj).ok hp;have cW:=hp.2;have sH:=(gz dK (s:=[40]) aP).ok dK
 cases he:mX (d+1) (p.next.aV [40]) with
 | none=>exact za2
 | some r =>
 obtain ⟨e,p1⟩:=r;rw [he] at h;simp only at h;have lE:=(qN sH he).ok sH;have HI:=(gz lE (s:=[41]) aP).ok lE
 cases hb:mS f (.block (d+1)) (p1.aV [41]) with
 | none=>exact za5
 | some r =>
 obtain ⟨b,p2⟩:=r;rw [hb] at h;simp only at h;have et:=((MX f).1 _ _ _ _ HI (fun a d' h=>by cases h) hb).ok HI;have Yb:=et.2
 have key:∀ k:Int,(if k=9/\p2.sign 0=fp then match mS f (.block (d+1)) p2.next with
     | none=>none
     | some (b2,q)=>some (one k a [] [e,b,b2],q)
    else some (one k a [] [e,b],p2))=some (t,q)->p.ck=k->(k=9\/k=10)->((p.sign 0==[105,102])=true/\k=9)\/((p.sign 0==[105,102])=false/\k=10):=by
  intro k _ hk _;unfold RS.ck at hk;split at hk
  ·rename_i hs;exact .inl ⟨by rw [hs];rfl,hk.symm⟩
  ·rename_i hs;refine .inr ⟨?_,hk.symm⟩
   cases hq:(p.sign 0==[105,102]) with
   | false=>rfl
   | true=>exact absurd (eq_of_beq hq) hs
 have vo:p.ck=9\/p.ck=10:=by unfold RS.ck;split <;> simp
 have key:=key p.ck h rfl vo;generalize p.ck=k at h key;clear vo
 rcases key with ⟨hs,rfl⟩ | ⟨hs,rfl⟩
 ·by_cases dJ:p2.sign 0=fp
  ·rw [ab ⟨rfl,dJ⟩] at h
   have abm:(p2.sign 0==[101,108,115,101])=true:=by rw [dJ];rfl
   have oI:=(gS dJ aP).1;have abF:=(kH dJ aP).ok et
   cases fJ:mS f (.block (d+1)) p2.next with
   | none=>rw [fJ] at h;cases h
   | some r =>
   obtain ⟨b2,p3⟩:=r;rw [fJ] at h;cases h;refine ah func236 ntmps236 ?_;refine zas ?_;refine aI [0] (C.block (d+1) _ b p2 HI G hb) ?_;refine rH ?_;refine bo ?_;refine V [0] (dM p2 0 et aP) ?_;refine iq [0] (C.block (d+1) _ b2 q abF G fJ) ?_;refine zaX ?_;refine zey ?_;refine V [] (iL 9 a [] [e,b,b2] _ qb) ?_;exact ed
  ·rw [F (fun hh=>dJ hh.2)] at h
   have abm:(p2.sign 0==[101,108,115,101])=false:=by
    cases hq:(p2.sign 0==[101,108,115,101]) with
    | false=>rfl
    | true=>exact absurd (eq_of_beq hq) dJ
   cases h;refine ah func236 ntmps236 ?_;refine zas ?_;refine aI [0] (C.block (d+1) _ b q HI G hb) ?_;refine rH ?_;refine bo ?_;refine V [0] (dM q 0 et aP) ?_;refine zey ?_;refine V [] (iL 9 a [] [e,b] _ qb) ?_;exact ed
 ·rw [F (fun hh=>by cases hh.1)] at h;cases h;refine ah func236 ntmps236 ?_;refine zas ?_;refine aI [0] (C.block (d+1) _ b q HI G hb) ?_;refine rH ?_;refine bo ?_;refine zey ?_;refine V [] (iL 10 a [] [e,b] _ qb) ?_;exact ed
theorem xd {s t:ae} (h:¬ s=t):(s==t)=false:=by
 cases hq:(s==t) with
 | false=>rfl
 | true=>exact absurd (eq_of_beq hq) h
theorem Zb {f:Nat} (C:NY f) (d:Nat) (p:RS) (t:T) (q:RS) (hp:p.ok) (hd:d+(f+1)<=1099511627776) (h:mS (f+1) (.stmt d) p=some (t,q)) :
  GF prog 192 [.loc 0 0,.v (ii (d:Nat))] [cQ p] (.agg (cT t)) [cQ q]:=by
 rw [mS] at h;have mu:=(qa hp d).ok hp;have yo:=wz p d hp;generalize p.deep d=p1 at *
 try simp only at h
 obtain ⟨Fy,cW⟩:=id mu;generalize wj:p1.place=at_ at h;refine ah func192 ntmps192 ?_;refine V [0] yo ?_;refine V [0] (mz p1 mu) ?_;refine iq [0] (dM p1 0 mu aP) ?_;rw [wj]
 by_cases I:p1.sign 0=ja
 ·rw [ab I] at h
  have e1:(p1.sign 0==[118,97,114])=true:=by rw [I];rfl
  have aj:=(gS I aP).1;have hn:=(kH I aP).ok mu;have fm:=(tt hn).ok hn;have lD:=(gz fm (s:=[61]) aP).ok fm
  cases he:mX (d+1) (p1.next.name.2.aV [61]) with
  | none=>exact za2
  | some r =>
  obtain ⟨e,p2⟩:=r;rw [he] at h;cases h;have et:=(qN lD he).ok lD;refine D ?_;refine V [0] (Ab p1.next hn) ?_;refine zdu ?_;refine V [] (iL 13 at_ p1.next.name.1 [e] _ qb) ?_;exact ed
 rw [F I] at h;have e1:(p1.sign 0==[118,97,114])=false:=xd I
 by_cases M:p1.sign 0=eN\/p1.sign 0=ei
 ·rw [ab M] at h
  have e2:(p1.sign 0==[105,102])=true\/((p1.sign 0==[105,102])=false/\(p1.sign 0==[119,104,105,108,101])=true):=by
   rcases M with M | M
   ·exact .inl (by rw [M];rfl)
   ·exact .inr ⟨by rw [M];rfl,by rw [M];rfl⟩
  have aj:p1.i < p1.l.length:=by
   rcases M with M | M
   ·exact (gS M aP).1
   ·exact (gS M aP).1
  rcases e2 with e2 | ⟨e2,e3⟩
  all_goals
   refine D ?_;refine V [0] (C.cond at_ d p1 t q mu aj G h) ?_;exact ed
 rw [F M] at h
 have e2:(p1.sign 0==[105,102])=false:=xd fun hh=>M (.inl hh)
 have e3:(p1.sign 0==[119,104,105,108,101])=false:=xd fun hh=>M (.inr hh)
 by_cases h4:p1.sign 0=dR
 ·rw [ab h4] at h
  have e4:(p1.sign 0==[114,101,116,117,114,110])=true:=by rw [h4];rfl
  have aj:=(gS h4 aP).1;have hn:=(kH h4 aP).ok mu
  cases he:mX (d+1) p1.next with
  | none=>exact za2
  | some r =>
  obtain ⟨e,p2⟩:=r;rw [he] at h;cases h;have et:=(qN hn he).ok hn;refine D ?_;refine V [0] (Ae (d+1) _ e p2 hn G he) ?_;refine V [0] (dL p2 [59] et aP) ?_;refine zak ?_;refine V [] (iL 11 at_ [] [e] _ qb) ?_;exact ed
 rw [F h4] at h;have e4:(p1.sign 0==[114,101,116,117,114,110])=false:=xd h4
 by_cases h5:p1.code=0/\p1.pB=true/\p1.sign 1=[61]
 ·rw [ab h5] at h;obtain ⟨hc,HH,iI⟩:=h5
  have eg:(p1.code==0)=true:=by simpa using hc
  have acB:(p1.sign 1==[61])=true:=by rw [iI];rfl
  unfold RS.pB at HH
  cases ht:p1.l[p1.i]? with
  | none=>rw [ht] at HH;cases HH
  | some tk =>
  rw [ht] at HH
  have hk:(tk.kind==2)=true:=by simpa using HH
  have aj:=(bq ht).1
  have Sc:decide ((p1.i:Int) < ((p1.l.map dP).length:Int))=true:=by simpa using aj
  have hr:=me ht;have fm:=(tt mu).ok mu;have lD:=(gz fm (s:=[61]) aP).ok fm
  cases he:mX (d+1) (p1.name.2.aV [61]) with
  | none=>exact za2
  | some r =>
  obtain ⟨e,p2⟩:=r;rw [he] at h;cases h;have et:=(qN lD he).ok lD;refine D ?_;refine zfq ?_;refine D ?_;refine V [0] (Ab p1 mu) ?_;refine zdu ?_;refine V [] (iL 7 at_ p1.name.1 [e] _ qb) ?_;exact ed
 rw [F h5] at h
 cases he:mX (d+1) p1 with
 | none=>exact za2
 | some r =>
 obtain ⟨e,p2⟩:=r;rw [he] at h;simp only at h;have et:=(qN mu he).ok mu;have Yb:=et.2
 have HR:(p1.code==0)=false\/((p1.code==0)=true/\p1.l.length<=p1.i)\/((p1.code==0)=true/\∃ tk,p1.l[p1.i]?=some tk/\((tk.kind==2)=false\/((tk.kind==2)=true/\(p1.sign 1==[61])=false))):=by
  by_cases hc:p1.code=0
  ·refine .inr ?_
   have eg:(p1.code==0)=true:=by simpa using hc
   cases ht:p1.l[p1.i]? with
   | none=>exact .inl ⟨eg,qo ht⟩
   | some tk =>
    refine .inr ⟨eg,tk,rfl,?_⟩
    by_cases hk:tk.kind=2
    ·refine .inr ⟨by simpa using hk,xd fun h61=>h5 ⟨hc,?_,h61⟩⟩;unfold RS.pB;rw [ht];simpa using hk
    ·exact .inl zf8
  ·exact .inl zf7
 refine D ?_;refine GW.join (fun fr Γ=>fr=[.loc 0 0,.v (ii (d:Nat)),U,U,.loc 1 0,.v (ii at_),U,U,U,U,U,U,U,U,U,U,U,U,U,U,U,U,U,U,U,U,U,U,U,U,U,U,U,U,U,U,U,U,U,U,U,U,U,U,U,U,U,U,U,U,U,U,U,U,U,U,U,U,U,U,U,U,U,U,U,U,U,U,U,U,U,U,U,U,U,U,U,U,U,U,U,U,U,U,U,U,U,U,U,U,U,U,U,U,U,U,U,U,U,U,U,U,U,U,U,.v (.bool false),U,U,U,U,U,U,U,U,U,U,U,U,U,U,U,U,U,U,U,U,U,U,U,U,U,U,U,U,U,U,U,U,U,U,U,U,U,U,U,U,U,U,U,U,U,U,U,U,U,U,U,U,U,U,U,U,U,U,U,U,U,U,U,U,U]/\Γ=[cQ p1,.box 65 zT]) ?_ ?_
 ·rcases HR with eg | ⟨eg,ny⟩ | ⟨eg,tk,ht,hk | ⟨hk,iI⟩⟩
  ·exact zbj
  ·have Sc:decide ((p1.i:Int) < ((p1.l.map dP).length:Int))=false:=by simpa using ny
   exact zbj
  ·have aj:=(bq ht).1
   have Sc:decide ((p1.i:Int) < ((p1.l.map dP).length:Int))=true:=by simpa using aj
   have hr:=me ht;exact zbj
  ·have aj:=(bq ht).1
   have Sc:decide ((p1.i:Int) < ((p1.l.map dP).length:Int))=true:=by simpa using aj
   have hr:=me ht;refine zfq ?_;exact aY ⟨_,_,Wk.aC (by repeat (first | exact vb.nil | refine vb.U ?_ | refine vb.eq rfl ?_ | refine vb.eq (by rw [iI]) ?_)),rfl,rfl⟩
 ·rintro _ _ ⟨rfl,rfl⟩;refine D ?_;refine V [0] (Ae (d+1) _ e p2 mu G he) ?_
  by_cases k3:e.n.kind=3
  ·have k3':(e.n.kind==3)=true:=by simpa using k3
   by_cases ka:e.n.at_=at_
   ·have ka':(e.n.at_==at_)=true:=by simpa using ka
    by_cases ks:p2.sign 0=[61]
    ·have ks':(p2.sign 0==[61])=true:=by rw [ks];rfl
     rw [ab ⟨k3,ka,ks⟩] at h;have aj:=(gS ks aP).1;have hn:=(kH ks aP).ok et
     cases hk:e.kids with
     | nil=>rw [hk] at h;cases h
     | cons a rest =>
     cases hv:mX (d+1) p2.next with
     | none=>rw [hk,hv] at h;cases h
     | some r =>
     obtain ⟨v,p3⟩:=r;rw [hk,hv] at h;cases h;have ze:=(qN hn hv).ok hn
     have hr:(aQ (a::rest))[0]?=some (cT a):=by simp [aQ,uU]
     refine D ?_;refine V [0] (dM p2 0 et aP) ?_;refine V [0] (Ae (d+1) _ v p3 hn G hv) ?_;refine V [0] (dL p3 [59] ze aP) ?_;refine aL (aE 0 9 (.a 9 (.a 10 (.a 11 .nil)))) ?_;refine ao ?_;refine zay ?_;refine qZ [] (iL 8 at_ e.n.s [a,v] _ qb) ?_;refine I7 ?_;refine ao ?_;exact lO
    ·have ks':(p2.sign 0==[61])=false:=xd ks;rw [F (fun hh=>ks hh.2.2)] at h;cases h;refine D ?_;refine V [0] (dM p2 0 et aP) ?_;exact zbq
   ·have ka':(e.n.at_==at_)=false:=by simpa using ka
    rw [F (fun hh=>ka hh.2.1)] at h;cases h;refine D ?_;exact zbq
  ·have k3':(e.n.kind==3)=false:=by simpa using k3
   rw [F (fun hh=>k3 hh.1)] at h;cases h;refine D ?_;exact zbq
theorem sds (f:Nat):NY f:=by
 induction f using Nat.strongRecOn with
 | _ f ih =>
  cases f with
  | zero=>exact ⟨fun d p t q _ _ h=>by simp [mS] at h,fun d p t q _ _ h=>by simp [mS] at h,fun a d p t q _ _ _ h=>by simp [mS] at h⟩
  | succ f =>
   have C:=ih f (Nat.lt_succ_self f)
   have Cs:∀ f',f'<=f->NY f':=fun f' h=>ih f' (Nat.lt_succ_of_le h)
   exact ⟨fun d p t q hp hd h=>Ve Cs d p t q hp hd h,fun d p t q hp hd h=>Zb C d p t q hp hd h,fun a d p t q hp hl hd h=>WX C a d p t q hp hl hd h⟩
open Go.Xp (Ar)
def ay (n:Nd):List GV:=[.v (ii n.kind),.v (ii n.at_),.v (ii n.n),.v (sv n.s),ints n.kids]
def au (f:Go.Sp.Fn):List GV:=[.v (sv f.name),strs f.params,.v (ii f.body)]
def aB (a:Ar):List GV:=[.v (sv a.name),.v (ii a.size)]
abbrev ar (p:Src):List GV:=[strs p.globals,.sl 2 (p.arrays.map aB),.sl 3 (p.fns.map au),.sl 5 (p.nodes.map ay)]
theorem JA (k:Int):GF prog 258 [.v (ii k)] [] (.v (.bool (oz k))) []:=by
 unfold oz;refine c8 func258 ntmps258 ?_
 cases h:decide ((1:Int)<=k)
 all_goals
  exact ax
theorem JB (k:Int):GF prog 226 [.v (ii k)] [] (.v (.bool (iT k))) []:=by
 unfold iT;refine c8 func226 ntmps226 ?_
 cases h:decide ((7:Int)<=k)
 all_goals
  exact ax
theorem vC (s:ae):GF prog 225 [.v (sv s)] [] (.v (.bool (eP s))) []:=by
 refine ah func225 ntmps225 ?_;refine V [] lp ?_;refine GW.range (levels.map fun l=>[strs l]).length (fun k fr Γ=>fr=[.v (sv s),U,U,U,U,.sl 1 (levels.map fun l=>[strs l]),.v (ii ((levels.map fun l=>[strs l]).length:Int)),.v (ii (k:Nat)),U,U,U,U,U,U,U]/\Γ=[]/\((levels.take k).any fun l=>l.contains s)=false) ?_ aP ?_ ?_ ?_
 ·exact lj
 ·exact jd
 ·rintro k _ _ hk ⟨rfl,rfl,hf⟩
  have hk:k < levels.length:=by simpa using hk
  have hx:levels[k]?=some levels[k]:=by simp [hk]
  have hr:(levels.map fun l=>[strs l])[k]?=some [strs levels[k]]:=by simp [hk]
  have BI:levels[k].length<=1099511627776:=by
   have:∀ l∈levels,l.length<=1099511627776:=by decide
   exact this _ (getElem_mem hk)
  generalize levels[k]=x at *;have hh:=jk x s BI
  cases hb:x.contains s with
  | true =>
   rw [hb] at hh
   have ha:eP s=true:=by
    unfold eP;rw [qc];exact ⟨x,br hx,hb⟩
   refine D ?_;refine V [] hh ?_;refine cH ?_;rw [ha];exact zai
  | false =>
   exact zbt
 ·rintro _ _ ⟨rfl,rfl,hf⟩
  have hf:eP s=false:=by
   rw [jN zfL] at hf;exact hf
  refine zc5 ?_;rw [hf];exact zai
theorem db {l:List T} {i:Nat} {t:T} (h:l[i]?=some t):(aQ l)[i]?=some (cT t):=by
 induction l generalizing i with
 | nil=>simp at h
 | cons a l ih =>
  cases i with
  | zero=>cases h;simp [aQ,uU]
  | succ i=>simpa [aQ] using ih zfP
theorem fZ (t:T) (m:Nat) (hl:t.kids.length<=1099511627776):GF prog 224 [.agg (cT t),.v (ii (m:Nat))] [] (.v (.bool (bE m 0 t.kids))) []:=by
 refine ah func224 ntmps224 ?_;refine GW.range (aQ t.kids).length (fun k fr Γ=>fr=[U,.v (ii (m:Nat)),U,U,U,U,U,U,.sl 6 (aQ t.kids),.v (ii ((aQ t.kids).length:Int)),.v (ii (k:Nat)),U,U,U,U,U,U,U,U,U,U,U,U,U,U,U,U,U,U,U,U,U,U,U,U,U,U]/\Γ=[]/\bE m k (t.kids.drop k)=bE m 0 t.kids) ?_ (by rw [aX];exact hl) ?_ ?_ ?_
 ·exact ⟨_,_,(Wk.cut (n:=0) (aD _) rfl).trans (Wk.aC ak),rfl,rfl,rfl⟩
 ·exact jd
 ·rintro k _ _ hk ⟨rfl,rfl,hf⟩
  have hk:k < t.kids.length:=by rw [aX] at hk;exact hk
  have hx:t.kids[k]?=some t.kids[k]:=by simp [hk]
  have hr:=db hx;rw [lT hk,bE] at hf;generalize t.kids[k]=x at *;have he:=JA x.n.kind
  by_cases hm:k < m
  ·have hm1:decide ((k:Int) < (m:Int))=true:=by simpa using hm
   have rn:decide ((m:Int)<=(k:Int))=false:=by simpa using hm
   rw [ab hm] at hf
   cases hb:oz x.n.kind with
   | true =>
    rw [hb] at he hf;refine zbQ ?_;exact zda
   | false =>
    rw [hb] at he hf;refine zbQ ?_;refine cH ?_;rw [<-hf];exact zai
  ·have hm1:decide ((k:Int) < (m:Int))=false:=by simp;omega
   have rn:decide ((m:Int)<=(k:Int))=true:=by simp;omega
   rw [F hm] at hf
   cases hb:(x.n.kind==14) with
   | true =>
    rw [hb] at hf
    have bA:(x.n.kind != 14)=false:=by simp only [bne,hb];rfl
    refine D ?_;exact zda
   | false =>
    rw [hb] at hf
    have bA:(x.n.kind != 14)=true:=by simp only [bne,hb];rfl
    refine zc5 ?_;rw [<-hf];exact zai
 ·rintro _ _ ⟨rfl,rfl,hf⟩;rw [aX,List.drop_length,bE] at hf;refine zc5 ?_;rw [<-hf];exact zai
theorem jS {l:List Nd} {i:Nat} {n:Nd} (h:l[i]?=some n):(l.map ay)[i]?=some (ay n):=by rw [aS,h];rfl
theorem kE {l:List Int} {i:Nat} {n:Int} (h:l[i]?=some n):(l.map fun i=>[GV.v (ii i)])[i]?=some [.v (ii n)]:=by rw [aS,h];rfl
theorem Gw (p:Src) (hk:∀ n∈p.nodes,n.kids.length<=1000000000000):∀ (f a:Nat) (t:T),sub p.nodes f a=some t->GF prog 84 [.agg (ar p),.v (ii (a:Nat))] [] (.agg (cT t)) []:=by
 intro f
 induction f using Nat.strongRecOn with
 | _ f ih =>
 intro a t h
 cases f with
 | zero=>simp [sub] at h
 | succ f =>
 rw [sub] at h
 cases hn:p.nodes[a]? with
 | none=>exact zdY
 | some n =>
 rw [hn] at h;simp only at h
 cases hs:qn p.nodes f n.kids [] with
 | none=>rw [hs] at h;cases h
 | some l =>
 rw [hs] at h;cases h;have hr:=jS hn;have fB:=hk n (br hn);refine ah func84 ntmps84 ?_;refine GW.wk (Wk.Ez (i:=2) (o:=5) 65 6 rfl rfl) ?_
 refine GW.range (n.kids.map fun i=>[GV.v (ii i)]).length (fun k fr Γ=>∃ rows acc g,fr=[U,.v (ii (a:Nat)),.loc 0 0,U,.loc 1 0,.loc 2 0,U,U,U,U,U,U,U,U,U,U,U,U,U,ints n.kids,.v (ii ((n.kids.map fun i=>[GV.v (ii i)]).length:Int)),.v (ii (k:Nat)),U,U,U,U,U,U,U,U,U,U,U,U,U] /\
   Γ=[.box 33 (ar p),.box 65 zT,.box 65 [.v (ii n.kind),.v (ii n.at_),.v (ii n.n),.v (sv n.s),ints n.kids,.vec 3 k],.vec 65 6 0 rows] /\
   rows.length=k/\rows=aQ acc/\g<=f/\qn p.nodes g (n.kids.drop k) acc=some l) ?_ zgb ?_ ?_ ?_
 ·exact ⟨_,_,Wk.aC ak,[],[],f,rfl,rfl,rfl,rfl,aD _,hs⟩
 ·rintro k _ _ ⟨_,_,_,rfl,rfl,_⟩;exact dp
 ·rintro k _ _ aj ⟨rows,acc,g,rfl,rfl,xv,bI,hg,h⟩
  have aj:k < n.kids.length:=by simpa using aj
  have hx:n.kids[k]?=some n.kids[k]:=by simp [aj]
  rw [lT aj] at h;generalize n.kids[k]=x at *
  cases g with
  | zero=>simp [qn] at h
  | succ g =>
  rw [qn] at h
  by_cases ru:x < 0
  ·rw [ab ru] at h;cases h
  rw [F ru] at h
  cases bW:sub p.nodes g x.toNat with
  | none=>rw [bW] at h;cases h
  | some t =>
  rw [bW] at h;simp only at h;have AV:=ih g G x.toNat t bW;rw [Int.toNat_of_nonneg G] at AV;have uE:=kE hx;refine D ?_;refine aL (aE 0 4 (.a 4 (.a 5 (.a 6 (.q 7 (.a 8 .nil)))))) ?_;refine ao ?_;refine aI [] AV ?_;refine zay ?_;refine tw ?_;refine bo ?_;exact ⟨rfl,rfl,_,_,Wk.aC ak,_,acc++[t],g,rfl,rfl,by rw [aM,xv];rfl,by rw [wc,bI];rfl,by omega,h⟩
 ·rintro _ _ ⟨rows,acc,g,rfl,rfl,xv,bI,hg,h⟩;rw [bV,List.drop_length] at h
  have mT:acc=l:=by cases g <;> (rw [qn] at h;cases h;rfl)
  subst mT;subst bI;refine aY (GW.wk (Wk.wK (i:=2) (o:=5) rfl rfl rfl rfl xv) ?_);exact lO
end Go.Xg
namespace Go.Xg
open Go.RowKit Go.Xw Go.Proofs Go.WideShapes Go.Deep
open Go.Xp (Nd Ar)
open Go.Sp (Src)
open Go.Im (Small u7)
def flat (v:Value):Prop:=∀ a n c,v≠.slice a n c
def x9 (W:World) (v:Value) (xs:List Value):Prop:=∃ a c,v=.slice a xs.length c/\(xs=[]\/∃ b o,a=some ⟨b,o,none⟩/\xs.length<=c/\∀ i x,xs[i]?=some x->ig W.heap b (o+i)=some x/\flat x)
theorem x9.uniq {W:World} {v:Value} {xs ys:List Value} (h:x9 W v xs) (k:x9 W v ys):xs=ys:=by
 obtain ⟨a,c,I,M⟩:=h;obtain ⟨a',c',k1,k2⟩:=k;rw [I] at k1
 injection k1 with e1 e2 e3
 subst e1 e3
 rcases M with rfl | ⟨b,o,h3,h4,h5⟩
 ·exact (List.eq_nil_of_length_eq_zero (by simpa using e2.symm)).symm
 ·rcases k2 with rfl | ⟨b',o',k3,k4,k5⟩
  ·exact List.eq_nil_of_length_eq_zero (by simpa using e2)
  ·rw [h3] at k3;cases k3;apply ext_getElem e2;intro i hi hj;have a1:=(h5 i _ (getElem?_eq_getElem hi)).1;have a2:=(k5 i _ (getElem?_eq_getElem hj)).1;rw [a1] at a2;exact Option.some.inj a2
open Classical in
noncomputable def KW (W:World):Fz:=fun b o=>match ig W.heap b o with
 | none=>none
 | some v=>if ∃ a n c,v=.slice a n c then (if h:∃ xs,x9 W v xs then some (.sl 1 (h.choose.map fun x=>[.v x])) else none) else some (.v v)
theorem nq {W:World} {b o:Nat} {v:Value} (h:ig W.heap b o=some v) (hf:flat v):KW W b o=some (.v v):=by
 unfold KW;rw [h];simp only;rw [if_neg (by rintro ⟨a,n,c,e⟩;exact hf a n c e)]
theorem TN {W:World} {b o:Nat} {v:Value} {xs:List Value} (h:ig W.heap b o=some v) (hx:x9 W v xs):KW W b o=some (.sl 1 (xs.map fun x=>[.v x])):=by
 have hs:∃ a n c,v=.slice a n c:=by obtain ⟨a,c,e,_⟩:=hx;exact ⟨_,_,_,e⟩
 have hex:∃ xs,x9 W v xs:=⟨xs,hx⟩;unfold KW;rw [h];simp only;rw [if_pos hs,dif_pos hex,hex.choose_spec.uniq hx]
theorem Qx {W:World} {v:Value} {xs:List Value} (hx:x9 W v xs) (β:Bt):Rel (KW W) β v (.sl 1 (xs.map fun x=>[GV.v x])):=by
 obtain ⟨a,c,rfl,h⟩:=hx
 rcases h with rfl | ⟨b,o,rfl,hc,ng⟩
 ·exact .sl0 a c 1
 ·have:=Rel.sl (K:=KW W) (β:=β) b o c 1 (xs.map fun x=>[GV.v x]) (fun i r hr=>by
   rw [getElem?_map] at hr
   cases hi:xs[i]? with
   | none=>rw [hi] at hr;cases hr
   | some x =>
    rw [hi] at hr;cases hr;obtain ⟨I,M⟩:=ng i x hi;refine ⟨rfl,fun j g hg=>?_⟩
    cases j with
    | zero=>cases hg;rw [Nat.mul_one,Nat.add_zero];exact nq I M
    | succ j=>simp at hg) (by rw [length_map];exact hc)
  rw [length_map] at this;exact this
theorem Zt (W:World):mK (KW W) W:=fun b o g h=>by
 unfold KW at h
 cases hc:ig W.heap b o with
 | none=>rw [hc] at h;cases h
 | some v =>
  rw [hc] at h;simp only at h;split at h
  ·split at h
   ·rename_i hex;cases h;exact ⟨rfl,v,rfl,Qx hex.choose_spec _⟩
   ·cases h
  ·cases h;exact ⟨rfl,v,rfl,.v v⟩
theorem S9 {W:World} {v:Value} {k:Nat} {rows:List (List GV)} {a:Option Addr} {n c:Nat} (β:Bt) (hv:v=.slice a n c) (hn:rows.length=n)
  (h:n=0\/∃ b o,a=some ⟨b,o,none⟩/\n<=c/\∀ i r,rows[i]?=some r->r.length=k/\∀ j g,r[j]?=some g->KW W b (o+i * k+j)=some g):Rel (KW W) β v (.sl k rows):=by
 subst hv hn
 rcases h with h | ⟨b,o,rfl,hc,hr⟩
 ·have:=List.eq_nil_of_length_eq_zero h;subst this;exact .sl0 a c k
 ·exact .sl b o c k rows hr hc
theorem B8 {W:World} {a:Addr} {n:Nat} {v:Value} (h:W.cell? (a.add n)=some v):ig W.heap a.block (a.off+n)=some v:=by
 unfold Addr.add at h;split at h
 ·rename_i h0;subst h0;obtain ⟨b,o,s⟩:=a;have hs:=World.cell?_spot h;simp only at hs;subst hs;rw [gw] at h;exact h
 ·obtain ⟨b,o,s⟩:=a;simp only at h;rw [gw] at h;exact h
theorem B6 {W:World} {a:Addr} {v:Value} (h:W.cell? (a.add 0)=some v):a.spot=none:=by
 have:=World.cell?_spot h;unfold Addr.add at this;rw [if_pos rfl] at this;exact this
theorem tH {α:Type} {Q:Nat->α->Prop}:∀ {n:Nat},(∀ i,i < n->∃ x,Q i x)->∃ l:List α,l.length=n/\∀ i x,l[i]?=some x->Q i x
 | 0,_=>⟨[],rfl,fun i x h=>by simp at h⟩
 | n+1,h=>by
  obtain ⟨l,I,M⟩:=tH (n:=n) fun i hi=>h i G
  obtain ⟨x,hx⟩:=h n G;refine ⟨l++[x],by simp [I],fun i y hi=>?_⟩
  by_cases sG:i < n
  ·rw [List.getElem?_append_left G] at hi;exact M i y hi
  ·have aj:=(List.getElem?_eq_some_iff.1 hi).1;rw [length_append,length_cons,length_nil] at aj
   have:i=n:=by omega
   subst this;rw [List.getElem?_append_right G,I,Nat.sub_self] at hi
   cases hi;exact hx
theorem max_le {n:Nat} (h:n<=maxLen):n<=9223372036854775807:=by unfold maxLen at h;omega
section
variable {H:Type} {enc:TypeId × Value->H} {P:Program} {W:World}
theorem Iq {t e:TypeId} {n:Nat} {v:Value} {y:DataW H × List MemPlace} (ht:P.underlying t=some (.slice e)) (he:P.underlying e=some .string) (hc:P.cellsOf e=1) (h:DataW.trod enc P W 0 (fun _=>true) true n t [v]=some y) :
  ∃ l:List ae,x9 W v (l.map sv)/\l.length<=9223372036854775807/\∀ s∈l,s.length<=9223372036854775807:=by
 rcases open_slice1 ht hc h with ⟨fk,_⟩ | ⟨a,len,cap,m,n',acI,acJ,Pl,fk,_,hl,hm,tU,_,hx⟩
 ·injection fk with hv;subst hv
  exact ⟨[],⟨none,0,rfl,.inl rfl⟩,Nat.zero_le _,fun s h=>by cases h⟩
 ·injection fk with hv _;subst hv
  simp only [if_true] at tU
  obtain ⟨l,I,M⟩:=tH (n:=len) (Q:=fun i (s:ae)=>W.cell? (a.add i)=some (sv s)/\s.length<=9223372036854775807) (fun i hi=>by
   obtain ⟨c1,c2⟩:=hx i G;obtain ⟨s,hs,_,hz⟩:=DataW.trod_string he c2
   injection hs with hs _
   rw [hs] at c1
   exact ⟨s.data.toList,by rw [<-Gx];exact c1,max_le hz⟩)
  refine ⟨l,⟨some a,cap,by rw [length_map,I],?_⟩,by rw [I];exact max_le (Nat.le_trans hl hm),fun s hs=>?_⟩
  ·by_cases h0:len=0
   ·exact zez
   ·refine .inr ⟨a.block,a.off,?_,by rw [length_map,I];exact hl,fun i x hi=>?_⟩
    ·have xq:l[0]?=some (l[0]'G):=getElem?_eq_getElem _;have:=B6 (M 0 _ xq).1;exact zdj
    ·rw [getElem?_map] at hi
     cases uB:l[i]? with
     | none=>rw [uB] at hi;cases hi
     | some s =>
      rw [uB] at hi;cases hi;exact ⟨B8 (M i s uB).1,fun a n c e=>by cases e⟩
  ·obtain ⟨i,hi⟩:=List.getElem?_of_mem hs;exact (M i s hi).2
theorem S3 {t e:TypeId} {n:Nat} {v:Value} {y:DataW H × List MemPlace} (ht:P.underlying t=some (.slice e)) (he:P.underlying e=some (.int .i64)) (hc:P.cellsOf e=1) (h:DataW.trod enc P W 0 (fun _=>true) true n t [v]=some y) :
  ∃ l:List Int,x9 W v (l.map ii)/\l.length<=9223372036854775807:=by
 rcases open_slice1 ht hc h with ⟨fk,_⟩ | ⟨a,len,cap,m,n',acI,acJ,Pl,fk,_,hl,hm,tU,_,hx⟩
 ·injection fk with hv;subst hv
  exact ⟨[],⟨none,0,rfl,.inl rfl⟩,Nat.zero_le _⟩
 ·injection fk with hv _;subst hv
  simp only [if_true] at tU
  obtain ⟨l,I,M⟩:=tH (n:=len) (Q:=fun i (z:Int)=>W.cell? (a.add i)=some (ii z)) (fun i hi=>by
   obtain ⟨c1,c2⟩:=hx i G;obtain ⟨z,hs,_,hz⟩:=DataW.trod_int he c2
   injection hs with hs _
   rw [hs] at c1
   exact ⟨z,c1⟩)
  refine ⟨l,⟨some a,cap,by rw [length_map,I],?_⟩,by rw [I];exact max_le (Nat.le_trans hl hm)⟩
  by_cases h0:len=0
  ·exact zez
  ·refine .inr ⟨a.block,a.off,?_,by rw [length_map,I];exact hl,fun i x hi=>?_⟩
   ·have xq:l[0]?=some (l[0]'G):=getElem?_eq_getElem _;have:=B6 (M 0 _ xq);exact zdj
   ·rw [getElem?_map] at hi
    cases uB:l[i]? with
    | none=>rw [uB] at hi;cases hi
    | some s =>
     rw [uB] at hi;cases hi;exact ⟨B8 (M i s uB),fun a n c e=>by cases e⟩
theorem CE {α:Type} {t e:TypeId} {fs:Array Field} {k n:Nat} {v:Value} {y:DataW H × List MemPlace} (f:α->List GV) (Q:α->Prop) (β:Bt) (ht:P.underlying t=some (.slice e)) (he:P.underlying e=some (.struct fs)) (eW:oneCellFields P fs=true) (hC:P.cellsOf e=k) (hk:fs.size=k) (BE:0 < k)
  (each:∀ b o,(∀ (j:Nat) (fl:Field),fs[j]?=some fl->∃ v y n,ig W.heap b (o+j)=some v/\DataW.trod enc P W 0 (fun _=>true) true n fl.type [v]=some y)->∃ x,Q x/\(f x).length=k/\∀ j g,(f x)[j]?=some g->KW W b (o+j)=some g)
  (h:DataW.trod enc P W 0 (fun _=>true) true n t [v]=some y):∃ l:List α,Rel (KW W) β v (.sl k (l.map f))/\l.length<=9223372036854775807/\∀ x∈l,Q x:=by
 rcases open_slice ht h with ⟨fk,_⟩ | ⟨a,len,cap,m,n',acJ,Pl,fk,_,hl,hm,tU,_,hx⟩
 ·injection fk with hv;subst hv
  exact ⟨[],.sl0 none 0 k,Nat.zero_le _,fun s h=>by cases h⟩
 ·injection fk with hv _;subst hv
  simp only [if_true] at tU
  have ng:∀ i,i < len->∀ (j:Nat) (fl:Field),fs[j]?=some fl->∃ v y n,W.cell? (a.add (i * k+j))=some v/\DataW.trod enc P W 0 (fun _=>true) true n fl.type [v]=some y:=by
   intro i hi j fl hj;obtain ⟨Bn,hc,HO⟩:=hx i G;rw [hC] at hc;obtain ⟨ys,n',Dg,hy,hlen,HT,hf⟩:=DataW.trod_struct he HO;obtain ⟨_,Bz,wj⟩:=World.cells?_some hc;obtain ⟨ho,wq⟩:=hone_of eW j fl hj;have qz:j < fs.size:=(Array.getElem?_eq_some_iff.1 hj).1;have ng:=wj j G;have hv:Bn[j]?=some (Bn[j]'G):=getElem?_eq_getElem G;have I:=hf j fl hj;rw [ho,wq] at I
   have ZS:(Bn.drop j).take 1=[Bn[j]'G]:=by
    rw [List.drop_eq_getElem_cons G];rfl
   rw [ZS] at I;have Ux:ys[j]?=some (ys[j]'G):=getElem?_eq_getElem G;refine ⟨_,_,_,?_,I.trans Ux⟩;rw [<-Go.Deep.add_add,ng,hv]
  obtain ⟨l,I,M⟩:=tH (n:=len) (Q:=fun i x=>Q x/\(f x).length=k/\∀ j g,(f x)[j]?=some g->KW W a.block (a.off+i * k+j)=some g) (fun i hi =>
   each a.block (a.off+i * k) fun j fl hj=>by
    obtain ⟨v,y,n,c1,c2⟩:=ng i hi j fl hj
    exact ⟨v,y,n,by rw [Nat.add_assoc];exact B8 c1,c2⟩)
  refine ⟨l,S9 (n:=len) (c:=cap) β rfl (by rw [length_map,I]) ?_,by rw [I];exact max_le (Nat.le_trans hl hm),fun x hx=>?_⟩
  ·by_cases h0:len=0
   ·exact .inl h0
   ·refine .inr ⟨a.block,a.off,?_,hl,fun i r hr=>?_⟩
    ·obtain ⟨v,y,n,c1,c2⟩:=ng 0 G 0 (fs[0]'G) (Array.getElem?_eq_getElem G);rw [Nat.zero_mul,Nat.add_zero] at c1;have:=B6 c1;exact zdj
    ·rw [getElem?_map] at hr
     cases uB:l[i]? with
     | none=>rw [uB] at hr;cases hr
     | some x =>
      rw [uB] at hr;cases hr;exact (M i x uB).2
  ·obtain ⟨i,hi⟩:=List.getElem?_of_mem hx;exact (M i x hi).1
end
theorem IP (l:List ae):GV.sl 1 ((l.map sv).map fun x=>[GV.v x])=strs l:=by rw [map_map];rfl
theorem Sr (l:List Int):GV.sl 1 ((l.map ii).map fun x=>[GV.v x])=ints l:=by rw [map_map];rfl
theorem wf_i64 {z:Int} (h:(Lit.int .i64 z).wf=true) : -9223372036854775808<=z/\z<=9223372036854775807:=by
 simp only [Lit.wf,Bool.and_eq_true,decide_eq_true_eq] at h
 have I:IntKind.min .i64 = -9223372036854775808:=by decide
 have M:IntKind.max .i64=9223372036854775807:=by decide
 rw [I,M] at h;exact h
theorem xk (z:Int):flat (ii z):=fun a n c e=>by cases e
section
variable {H:Type} {enc:TypeId × Value->H} {W:World}
theorem S4 (β:Bt) {v:Value} {d:DataW H} {ps:List MemPlace} {r:Reach} {b0:Nat} (hv:Value.okWide Tryz.prog W r b0 27 v) (h:DataW.Trod enc Tryz.prog W 0 (fun _=>true) true 27 v d ps) :
  ∃ p:Src,Rel (KW W) β v (.agg (ar p))/\Small p 9223372036854775807/\u7 p:=by
 obtain ⟨v0,v1,v2,v3,y0,y1,y2,y3,n,rfl,_,_,h0,I,M,h3⟩:=Go.Joins.open_agg4 Tryz.underlying27 (by kernel_rfl) (by kernel_rfl) hv h
 have c9:Tryz.prog.cellsOf 9=1:=by kernel_rfl
 have c3:Tryz.prog.cellsOf 3=1:=by kernel_rfl
 obtain ⟨gs,g1,g2,g3⟩:=Iq Tryz.underlying22 Tryz.underlying9 c9 h0
 obtain ⟨ux,a1,a2,a3⟩:=CE aB (fun x=>x.name.length<=9223372036854775807 /\ -9223372036854775808<=x.size/\x.size<=9223372036854775807) β Tryz.underlying23 Tryz.underlying101 (by kernel_rfl) (k:=2) (by kernel_rfl) rfl G (fun b o hf=>by
  obtain ⟨u0,z0,n0,x0,w0⟩:=hf 0 _ rfl;obtain ⟨u1,z1,n1,x1,w1⟩:=hf 1 _ rfl;obtain ⟨s,hs,_,hz⟩:=DataW.trod_string Tryz.underlying9 w0;obtain ⟨z,iI,_,Uy⟩:=DataW.trod_int Tryz.underlying3 w1
  injection hs with hs _
  injection iI with iI _
  subst hs iI;refine ⟨⟨s.data.toList,z⟩,⟨max_le hz,wf_i64 Uy⟩,rfl,fun j g hg=>?_⟩
  match j,hg with
  | 0,hg=>cases hg;rw [<-Gx];exact nq x0 fun a n c e=>by cases e
  | 1,hg=>cases hg;exact nq x1 (xk z)
  | j+2,hg=>simp [aB] at hg) I
 obtain ⟨fs,di,kO,qR⟩:=CE au (fun x=>x.name.length<=9223372036854775807/\x.params.length<=9223372036854775807/\∀ s∈x.params,s.length<=9223372036854775807) β Tryz.underlying24 Tryz.underlying103 (by kernel_rfl) (k:=3) (by kernel_rfl) rfl G (fun b o hf=>by
  obtain ⟨u0,z0,n0,x0,w0⟩:=hf 0 _ rfl;obtain ⟨u1,z1,n1,x1,w1⟩:=hf 1 _ rfl;obtain ⟨u2,z2,n2,x2,w2⟩:=hf 2 _ rfl;obtain ⟨s,hs,_,hz⟩:=DataW.trod_string Tryz.underlying9 w0;obtain ⟨l,fK,gM,XV⟩:=Iq Tryz.underlying22 Tryz.underlying9 c9 w1;obtain ⟨z,iI,_,Uy⟩:=DataW.trod_int Tryz.underlying3 w2
  injection hs with hs _
  injection iI with iI _
  subst hs iI;refine ⟨⟨s.data.toList,l,z⟩,⟨max_le hz,gM,XV⟩,rfl,fun j g hg=>?_⟩
  match j,hg with
  | 0,hg=>cases hg;rw [<-Gx];exact nq x0 fun a n c e=>by cases e
  | 1,hg=>cases hg;rw [TN x1 fK,IP]
  | 2,hg=>cases hg;exact nq x2 (xk z)
  | j+3,hg=>simp [au] at hg) M
 obtain ⟨ns,k1,k2,k3⟩:=CE ay (fun x=>(x.s.length<=9223372036854775807/\x.kids.length<=9223372036854775807) /\ -9223372036854775808<=x.n/\x.n<=9223372036854775807) β Tryz.underlying25 Tryz.underlying105 (by kernel_rfl) (k:=5) (by kernel_rfl) rfl G (fun b o hf=>by
  obtain ⟨u0,z0,n0,x0,w0⟩:=hf 0 _ rfl;obtain ⟨u1,z1,n1,x1,w1⟩:=hf 1 _ rfl;obtain ⟨u2,z2,n2,x2,w2⟩:=hf 2 _ rfl;obtain ⟨u3,z3,n3,x3,w3⟩:=hf 3 _ rfl;obtain ⟨u4,z4,n4,x4,w4⟩:=hf 4 _ rfl;obtain ⟨i0,e0,_,_⟩:=DataW.trod_int Tryz.underlying3 w0;obtain ⟨i1,e1,_,_⟩:=DataW.trod_int Tryz.underlying3 w1;obtain ⟨i2,e2,_,q2⟩:=DataW.trod_int Tryz.underlying3 w2;obtain ⟨s,hs,_,hz⟩:=DataW.trod_string Tryz.underlying9 w3;obtain ⟨l,fK,gM⟩:=S3 Tryz.underlying60 Tryz.underlying3 c3 w4
  injection e0 with e0 _
  injection e1 with e1 _
  injection e2 with e2 _
  injection hs with hs _
  subst hs e0 e1 e2;refine ⟨⟨i0,i1,i2,s.data.toList,l⟩,⟨⟨max_le hz,gM⟩,wf_i64 q2⟩,rfl,fun j g hg=>?_⟩
  match j,hg with
  | 0,hg=>cases hg;exact nq x0 (xk _)
  | 1,hg=>cases hg;exact nq x1 (xk _)
  | 2,hg=>cases hg;exact nq x2 (xk _)
  | 3,hg=>cases hg;rw [<-Gx];exact nq x3 fun a n c e=>by cases e
  | 4,hg=>cases hg;rw [TN x4 fK,Sr]
  | j+5,hg=>simp [ay] at hg) h3
 have r0:=Qx g1 β;rw [IP] at r0;refine ⟨⟨gs,ux,fs,ns⟩,?_,⟨⟨g2,g3⟩,⟨a2,fun x hx=>(a3 x hx).1⟩,⟨kO,qR⟩,⟨k2,fun x hx=>(k3 x hx).1⟩⟩,⟨fun x hx=>(a3 x hx).2,fun x hx=>(k3 x hx).2⟩⟩;have hc:bm (KW W) β [v0,v1,v2,v3] (ar ⟨gs,ux,fs,ns⟩):=.cons r0 (.cons a1 (.cons di (.cons k1 .nil)));exact .agg [v0,v1,v2,v3] _ hc.1 hc.2
end
end Go.Xg
namespace Go.Xg
open Go.RowKit Go.Xw Go.Proofs Go.Lib
theorem QR {P:Program} {W:World} {name:String} {k:IntKind} {zs:List Int} {g:Nat} {t e:TypeId} {n:Nat}
  (hg:P.globalNamed name=some g) (hty:(P.globals[g]?).map (·.type)=some t) (ht:P.underlying t=some (.array n e)) (he:P.underlying e=some (.int k)) (Pe:P.cellsOf e=1) (hct:P.cellsOf t=n)
  (h:VarReads P W name (tabData k zs)):TabIs P W name k zs:=by
 obtain ⟨g',t',cs,fuel,p,nw,HO,abO,hd⟩:=h;obtain rfl:=Option.some.inj (hg.symm.trans nw);obtain rfl:=Option.some.inj (hty.symm.trans HO);unfold TabIs;rw [abO,<-cells_of_tab ht he Pe hct hd]
theorem LM {P:Program} {W:World} {name:String} {k:IntKind} {zs:List Int} {g n:Nat} (hg:P.globalNamed name=some g) (hn:zs.length=n) (h:TabIs P W name k zs):va W g n:=by
 unfold TabIs World.var? at h;rw [hg] at h;simp only [Option.bind_some] at h
 cases hb:W.heap[g]? with
 | none=>exact za5
 | some o =>
  rw [hb] at h
  cases o with
  | cells cs E z =>
   simp only [Option.some.injEq] at h;exact ⟨cs,E,z,hb,by rw [h];simpa using hn⟩
  | _=>cases h
theorem NW {P:Program} {W:World} {name:String} {k:IntKind} {zs:List Int} {g:Nat} (hg:P.globalNamed name=some g) (h:TabIs P W name k zs) {o:Nat} {z:Int} (ho:zs[o]?=some z):KW W g o=some (.v (.int k z)):=by
 have aj:=(List.getElem?_eq_some_iff.1 ho).1;have hc:=h.cell hg o aj;rw [List.getD_eq_getElem?_getD,ho,gw] at hc
 exact nq hc fun a n c e=>by cases e
theorem Wu {W:World} (hp:VarReads Tryz.prog W "internal/strconv.uint64pow10" (tabData .u64 xP)) (hs:VarReads Tryz.prog W "strings.asciiSpace" (tabData .u8 xU)) (hW:W.ShapedOpen Tryz.prog):kL (KW W) (fun _=>.no) W:=by
 have gp:Tryz.prog.globalNamed "internal/strconv.uint64pow10" = some 3:=by kernel_rfl
 have gs:Tryz.prog.globalNamed "strings.asciiSpace" = some 1:=by kernel_rfl
 have tp:=QR gp (t:=275) (by kernel_rfl) Tryz.underlying275 (k:=.u64) (by kernel_rfl) (by kernel_rfl) (by kernel_rfl) hp;have ts:=QR gs (t:=253) (by kernel_rfl) Tryz.underlying253 (k:=.u8) (by kernel_rfl) (by kernel_rfl) (by kernel_rfl) hs;obtain ⟨m,hm⟩:=cell_of_shapedOpen_int (g:=0) (zero:=#[.int .i64 0]) (t:=3) hW (of_decide_eq_true (by kernel_rfl)) (by kernel_rfl) rfl (by kernel_rfl) (by kernel_rfl) Tryz.underlying3;rw [gw] at hm;refine ⟨⟨m,fun b o g h=>?_⟩,LM gp aP tp,LM gs aP ts,fun i b h=>by cases h⟩;unfold zn at h;split at h
 ·rename_i hb;subst hb;split at h
  ·cases h;exact nq hm fun a n c e=>by cases e
  ·cases h
 ·split at h
  ·rename_i hb;subst hb
   cases ho:xP[o]? with
   | none=>rw [ho] at h;cases h
   | some z=>rw [ho] at h;cases h;exact NW gp tp ho
  ·split at h
   ·rename_i hb;subst hb
    cases ho:xU[o]? with
    | none=>rw [ho] at h;cases h
    | some z=>rw [ho] at h;cases h;exact NW gs ts ho
   ·cases h
theorem GF.calls {P:Program} {f:FuncId} {gs:List GV} {g:GV} (h:GF P f gs [] g []) {W:World} {vs:List Value} (hv:bm (KW W) (fun _=>.no) vs gs) (hT:kL (KW W) (fun _=>.no) W) :
  om P f vs W fun v w'=>Below W.heap.size W w'/\∃ K β,Rel K β v g:=by
 have hI:Inv ⟨W,iD,KW W,fun _=>.no,0⟩ (KW W) (fun _=>.no) [] W :=
  ⟨Ext.refl W,cV.refl _,dF.refl _,fun _ _=>rfl,Zt W,fun i x h=>by simp at h,fun _ _=>rfl,fun i j b h=>zfS,fun i b h=>zfS,fun b o g h=>.inl h,hT⟩
 refine (h ⟨W,iD,KW W,fun _=>.no,0⟩ (KW W) (fun _=>.no) W vs rfl hI hv).mono ?_;rintro v w' ⟨K',bX,x,aR,I,M,rfl,rfl⟩;exact ⟨I.ext.below,K',bX,M⟩
end Go.Xg
namespace Go.Xg
open Go.RowKit Go.Xw
theorem yB (n:Int):bits .and .i64 n 4294967295=n % 4294967296:=by
 have h:(BitVec.ofInt 64 4294967295).toNat=2 ^ 32 - 1:=by decide
 have key:(BitVec.ofInt 64 n &&& BitVec.ofInt 64 4294967295).toNat=(n % ((2 ^ 64:Nat):Int)).toNat % 2 ^ 32:=by
  rw [BitVec.toNat_and,BitVec.toNat_ofInt,h,Nat.and_two_pow_sub_one_eq_mod]
 show IntKind.i64.wrap ((BitVec.ofInt 64 n &&& BitVec.ofInt 64 4294967295).toNat:Nat)=n % 4294967296;rw [key,IntKind.wrap_i64];omega
section
variable {P:Program} {fr:List GV} {Γ:List Ob}
theorem YG.yB {x y:Operand} {t t':TypeId} {a:Int} (hx:be fr x=.v (ii a)) (hy:be fr y=.v (ii 4294967295)):YG P (.binOp .and t x y t') fr Γ (.v (ii (a % 4294967296))) :=
 YG.v2 hx hy fun l w h k d ty pos af=>by
  simp [execOp,eqGuard,h,k,binOp,intBits_and,Go.Xg.yB]
end
end Go.Xg
namespace Go.Xw
open Go.RowKit
class EX (P:Program) (t:TypeId) (e:outParam TypeId):Prop where
 is:P.underlying t=some (.slice e)/\∃ i,P.info? e=some i/\i.zero=some (.int .u8 0)/\i.size=1/\i.bytes=1
def TR (P:Program) (t e:TypeId):Bool :=
 (match P.underlying t with | some (.slice e')=>e'==e | _=>false)&&(match P.info? e with | some i=>(match i.zero with | some (.int .u8 0)=>true | _=>false)&&i.size==1&&i.bytes==1 | none=>false)
theorem EX.mk' {P:Program} {t e:TypeId} (h:TR P t e=true):EX P t e:=by
 unfold TR at h;rw [aH] at h;obtain ⟨I,M⟩:=h;refine ⟨?_,?_⟩
 ·split at I
  ·rename_i e' hu;rw [hu];simp at I;rw [I]
  ·cases I
 ·split at M
  ·rename_i i hi;simp only [aH,beq_iff_eq] at M;obtain ⟨⟨h4,h5⟩,h6⟩:=M;split at h4
   ·rename_i hz;exact ⟨i,hi,hz,h5,h6⟩
   ·cases h4
  ·cases M
section
variable {P:Program} {Q:nr} {l:List Value} {w:World} {ops:Array Oper} {rest:List Oper} {d:Option Tmp} {ty:TypeId} {pos:String} {af:Array Edge}
def mh (s:ae):List Value:=s.map fun c=>.int .u8 (c.toNat:Int)
theorem WL.DY {s x:Operand} {t u e:Nat} [hT:EX P t e] [hU:rK P u] {base n:Nat} {xs:List Value} {v:Value} {str:ae} (hs:ev l s=v) (gq:jg w base e 1 v n xs) (hx:ev l x=sv str)
  (zM:n+str.length<=140737488355328) (Da:base<=w.heap.size)
  (h:∀ v' w',jg w' base e 1 v' (n+str.length) (xs++mh str)->Ext (fun b=>v.ownBlock=some b) w w'->(∀ b,v'.ownBlock=some b->v.ownBlock=some b\/w.heap.size<=b)->(Ext iD w w'\/v'.ownBlock=v.ownBlock)->WL P ops Q rest (put l d v') w') :
  WL P ops Q (⟨d,.call ⟨.builtin .append,#[s,x],#[t,u]⟩,ty,pos,af,none⟩::rest) l w:=by
 obtain ⟨hu,i,hi,hz,cX,zL⟩:=hT.is;have gW:=hU.und
 have rp:(⟨str.toArray⟩:ByteArray).size=str.length:=by simp [ByteArray.size]
 have fk:Lib.strCells ⟨str.toArray⟩=mh str:=by simp [Lib.strCells,mh]
 obtain ⟨v',w',hr,M,h3,h4⟩:=Lib.run_append_own_string (P:=P) w base t u ty e i hu gW hi hz cX zL v n xs gq ⟨str.toArray⟩ (by rw [rp];simp only [maxLen];omega) zga Da;rw [rp,fk] at M;rw [rp] at h4;have ji:Ext (fun b=>v.ownBlock=some b) w w':=⟨h3.os,h3.tape,h3.output,h3.size,fun j hj hn=>h3.block j hj fun he=>hn he.symm⟩;have oJ:(Builtin.append_ #[t,u] ty #[v,sv str]).run P w=.ok v' w':=hr;refine WL.val (v:=v') (w':=w') (by simp [execOp,resolve,invoke,builtin,hs,hx,oJ]) (h v' w' M ji ?_ ?_)
 ·intro b' bA
  rcases gq.2 with ⟨rfl,rfl⟩ | ⟨g,cap,cur,rfl,pk,hg,qB,y9,fk,Dm⟩
  ·by_cases hm:str.length=0
   ·have:=h4.2 ⟨rfl,hm⟩;subst this;cases bA
   ·have eh:=run_append_nil_string (P:=P) w t u ty e i (.int .u8 0) hu gW hi hz ⟨str.toArray⟩ zfO zga (by rw [zL,rp];omega);rw [hr] at eh;cases eh;exact zbd
  ·by_cases hroom:n+str.length<=cap
   ·have XN:cur.size=cap:=by simpa using fk
    have eh:=Lib.run_append_room_string (P:=P) w t u ty e i hu gW hi cX g n cap cur hg ⟨str.toArray⟩ (by rw [rp];exact hroom) zga;rw [hr] at eh;cases eh;exact .inl bA
   ·have holds:∀ j u,xs[j]?=some u->w.cell? ((⟨g,0,none⟩:Addr).add j)=some u:=World.ownsRow.cells (g:=g) gq rfl;have eh:=Lib.run_append_grow_string (P:=P) w t u ty e i (.int .u8 0) hu gW hi hz ⟨g,0,none⟩ n cap xs zgs holds ⟨str.toArray⟩ zga zga zgJ;rw [hr] at eh;cases eh;exact zbd
 ·rcases gq.2 with ⟨rfl,rfl⟩ | ⟨g,cap,cur,rfl,pk,hg,qB,y9,fk,Dm⟩
  ·exact .inl (ji.mono fun k _ hk=>by cases hk)
  ·by_cases hroom:n+str.length<=cap
   ·have XN:cur.size=cap:=by simpa using fk
    have eh:=Lib.run_append_room_string (P:=P) w t u ty e i hu gW hi cX g n cap cur hg ⟨str.toArray⟩ (by rw [rp];exact hroom) zga;rw [hr] at eh;cases eh;exact zbx
   ·have holds:∀ j u,xs[j]?=some u->w.cell? ((⟨g,0,none⟩:Addr).add j)=some u:=World.ownsRow.cells (g:=g) gq rfl;have eh:=Lib.run_append_grow_string (P:=P) w t u ty e i (.int .u8 0) hu gW hi hz ⟨g,0,none⟩ n cap xs zgs holds ⟨str.toArray⟩ zga zga zgJ;rw [hr] at eh;cases eh;exact zdf
theorem R.vk {x:Operand} {s:TypeId} {i off:Nat} [hT:ef P s i off 1 false] {vs:List Value} {v:Value} (hx:ev l x=.agg vs.toArray) (hv:vs[off]?=some v):fx P l w (.field s x i) v:=fun d ty pos af=>by
 obtain ⟨hT⟩:=hT;unfold Mp at hT;split at hT
 ·rename_i fs hu;split at hT
  ·rename_i f hf;simp only [aH,beq_iff_eq,bne_iff_ne,ne_eq] at hT;obtain ⟨⟨⟨I,M⟩,h3⟩,h4⟩:=hT
   have hag:(isAgg f.type).run P w=.ok false w:=by
    cases hd:P.underlying f.type with
    | none=>simp [hd] at h4
    | some d =>
     rw [hd] at h4;unfold isAgg;rw [Sem.run_bind,run_underlying hd w]
     cases d <;> simp_all [AG]
   have Dp:vs.toArray[f.offset]?=some v:=by rw [I];simpa using hv
   have hv2:vs[f.offset]?=some v:=by rw [I];exact hv
   simp [execOp,Instr.field,hx,run_underlying hu,hf,part,asAgg,hag,Dp,hv2]
  ·cases hT
 ·cases hT
end
end Go.Xw
namespace Go.Xg
open Go.RowKit Go.Xw
open GV (U)
section
variable {P:Program} {m:Nat} {Q:dG} {fr:List GV} {Γ:List Ob} {ops:Array Oper} {rest:List Oper} {d:Option Tmp} {op:Op} {ty:TypeId} {pos:String} {af:Array Edge}
theorem YG.vk {x:Operand} {s:TypeId} {i off:Nat} [hT:ef P s i off 1 false] {cs:List GV} {g:GV} (hx:be fr x=.agg cs) (hg:cs[off]?=some g):YG P (.field s x i) fr Γ g:=fun B K β w l hI hF=>by
 have h:=hF.ev x;rw [hx] at h;generalize hv:ev l x=v at h
 cases h with
 | agg vs _ hl h =>
  have hi:off < vs.length:=by rw [hl];exact (bq hg).1
  exact ⟨vs[off],R.vk hv zgu,h off _ g zgu hg⟩
abbrev cY (s:ae):List (List GV):=s.map fun c=>[.v (.int .u8 (c.toNat:Int))]
theorem GL.DY {s x:Operand} {t u e:Nat} [hT:EX P t e] [hU:rK P u] {i n fz:Nat} {rows:List (List GV)} {str:ae} (hx:be fr x=.v (sv str)) (hs:be fr s=.vec i n) (bJ:Γ[i]?=some (.vec e 1 fz rows)) (hn:rows.length=n) (cn:str.isEmpty=false)
  (hb:n+str.length<=140737488355328)
  (h:GL P m ops Q rest (bC fr d (.vec i (n+str.length))) (oset Γ i (.vec e 1 fz (rows++cY str)))) :
  GL P m ops Q (⟨d,.call ⟨.builtin .append,#[s,x],#[t,u]⟩,ty,pos,af,none⟩::rest) fr Γ:=fun B K β w l hm hI hF=>by
 subst hn
 have cn:str≠[]:=by intro h0;rw [h0] at cn;cases cn
 obtain ⟨h0,xs,o1,o2,o3,o4,o5,o6⟩:=hI.ob i _ bJ;have vw:=hF.ev s;rw [hs] at vw
 have sJ:ev l s=h0:=by
  generalize hv:ev l s=v at vw
  cases vw with
  | vec _ _ a c hh =>
   obtain ⟨h',m',e1,e2,e3⟩:=hh;rw [o1] at e1;cases e1;exact e3 rfl
 have iG:(cY str).flatten=str.map fun c=>GV.v (.int .u8 (c.toNat:Int)):=by
  unfold cY;clear hx cn hb h;generalize str=s
  induction s with
  | nil=>rfl
  | cons c r ih=>simp only [List.map_cons,flatten_cons,ih];rfl
 have hlen:(cY str).length=str.length:=by simp [cY]
 refine WL.DY (base:=0) (v:=h0) (n:=rows.length) (xs:=xs) (str:=str) sJ o2 (hF.kq hx) hb (aO _) ?_;intro v' w' how ji wo xt
 obtain ⟨K',hK,sK,bz⟩:=hI.grow bJ o1 ⟨o2,o3⟩ (news:=cY str) (ns:=mh str) (by rw [hlen];exact how) ji wo (by rw [iG];exact (by
   have:(str.map fun c=>GV.v (.int .u8 (c.toNat:Int)))=mH (mh str):=by simp [mH,mh]
   rw [this];exact bm.self)) (fun r hr=>by
   simp only [cY,oX] at hr;obtain ⟨c,_,rfl⟩:=hr
   exact ⟨rfl,fun g hg=>by rw [List.mem_singleton] at hg;subst hg;rfl⟩) (by intro h0;exact cn (List.map_eq_nil_iff.1 h0)) (fun b bA o v ho hv=>by
  rcases xt with h7 | h7
  ·exact h7.c hv (fun h=>h)
  ·have iR:o < xs.length:=by rw [o2.1];exact y5 ho (sD 1 o6)
   obtain ⟨b2,c2,rm,_,_,lC⟩:=o2.cells.2 (by intro h0;rw [h0] at iR;simp at iR)
   have fJ:b2=b:=by rw [rm] at bA;cases bA;rfl
   subst fJ;have FC:=lC o xs[o] (by simp [iR]);rw [gw,hv] at FC;cases FC;obtain ⟨b3,c3,Ph,_,_,Pd⟩:=how.cells.2 (by intro h0;have:xs=[]:=(List.append_eq_nil_iff.1 h0).1;rw [this] at iR;simp at iR)
   have zJ:b3=b2:=by rw [Ph,bA] at h7;cases h7;rfl
   subst zJ
   rw [<-gw];exact Pd o _ zgG)
 rw [<-bg] at bz;refine h B K' _ w' _ hm bz ((hF.mono hK sK).put d ?_);obtain ⟨a,c,rfl⟩:=how.shape;exact .vec i _ a c ⟨_,_,bG,by simp [hlen],fun _=>by simp [hlen]⟩
end
theorem GF.YA {P:Program} {f:FuncId} {vs:List Value} {v:Value} (h:∀ K β w,kL K β w->mK K w->om P f vs w fun x w'=>x=v/\Ext iD w w'):GF P f (vs.map GV.v) [] (.v v) []:=fun B K β w us hm hI hF=>by
 have hv:us=vs:=by
  obtain ⟨I,M⟩:=hF;apply ext_getElem
  ·simpa using I
  ·intro i h3 h4;have:=M i us[i] (.v vs[i]) (by simp [h3]) (by simp [h4]);exact Rel.fF this
 subst hv
 exact (h K β w hI.tab hI.fz).mono fun x w' ⟨I,M⟩=>⟨K,β,.v v,[],hI.same M,by rw [I];exact .v _,rfl,rfl⟩
theorem kL.cell {K:Fz} {β:Bt} {w:World} (h:kL K β w) (hf:mK K w) {b o:Nat} {x:Value} (hk:∀ m,zn m b o=some (.v x)):ig w.heap b o=some x:=by
 obtain ⟨m,h⟩:=h.le;obtain ⟨_,v,hv,hr⟩:=hf b o _ (h b o _ (hk m));rw [hv,Rel.fF hr]
theorem kL.maxLen {K:Fz} {β:Bt} {w:World} (h:kL K β w) (hf:mK K w):∃ m,w.cell? ⟨0,0,none⟩=some (.int .i64 m):=by
 obtain ⟨m,h⟩:=h.le
 have hk:zn m 0 0=some (.v (.int .i64 m)):=by simp [zn]
 obtain ⟨_,v,hv,hr⟩:=hf _ _ _ (h _ _ _ hk);exact ⟨m,by rw [gw,hv,Rel.fF hr]⟩
theorem va.all {K:Fz} {β:Bt} {w:World} (h:kL K β w) (hf:mK K w) {b n:Nat} {zs:List Value} (hb:va w b n) (hn:zs.length=n) (hk:∀ m o x,zs[o]?=some x->zn m b o=some (.v x)):∃ E z,w.heap[b]?=some (.cells zs.toArray E z):=by
 obtain ⟨cs,E,z,I,M⟩:=hb;refine ⟨E,z,?_⟩
 have:cs=zs.toArray:=by
  apply Array.ext
  ·simp [M,hn]
  ·intro i hi qy
   have hx:zs[i]?=some zs.toArray[i]:=by simp
   have h3:=h.cell hf (b:=b) (o:=i) (fun m=>hk m i _ hx)
   have h4:ig w.heap b i=cs[i]?:=by rw [<-gw,cell_of_row w b i cs E z I]
   rw [h4] at h3;simpa [hi] using h3
 rw [I,this]
theorem GF.abW {P:Program} {f:FuncId} {vs us:List Value} {E:TypeId} (h:∀ K β w,kL K β w->mK K w->om P f vs w fun x w'=>x=.slice (some ⟨w.heap.size,0,none⟩) us.length us.length/\w'=w.alloc (.cells us.toArray E)):GF P f (vs.map GV.v) [] (.sl 1 (us.map fun u=>[.v u])) []:=fun B K β w ws hm hI hF=>by
 have hv:ws=vs:=by
  obtain ⟨I,M⟩:=hF;apply ext_getElem
  ·simpa using I
  ·intro i h3 h4;have:=M i ws[i] (.v vs[i]) (by simp [h3]) (by simp [h4]);exact Rel.fF this
 subst hv
 refine (h K β w hI.tab hI.fz).mono fun x w' ⟨I,M⟩=>?_
 subst I;subst M;have hn:=vV.of w (.cells us.toArray E);obtain ⟨hle,bz⟩:=hI.tS hn (cs:=us.map .v) bm.self (fun g hg=>by obtain ⟨u,_,rfl⟩:=oX.1 hg;rfl);refine ⟨_,β,.sl 1 (us.map fun u=>[.v u]),[],bz,?_,rfl,rfl⟩;have:=Rel.sl (K:=l0 K w.heap.size (us.map .v)) (β:=β) w.heap.size 0 us.length 1 (us.map fun u=>[.v u]) (fun i r hr=>?_) zfL
 ·rw [bV] at this;exact this
 ·rw [aS] at hr
  cases hu:us[i]? with
  | none=>rw [hu] at hr;cases hr
  | some u =>
   rw [hu] at hr;cases hr;refine ⟨rfl,fun j g hg=>?_⟩
   cases j with
   | zero=>cases hg;rw [cL,Nat.mul_one,Nat.add_zero];exact uO (by rw [aS,hu];rfl)
   | succ j=>simp at hg
section
variable {B:Bs} {K:Fz} {β:Bt} {Γ:List Ob} {w:World}
theorem Inv.swap {i:Nat} {y:Ob} (h:Inv B K β Γ w) (ho:lZ K β w i y):Inv B K β (oset Γ i y) w:=by
 refine ⟨h.ext,h.kle,h.ble,h.loc,h.fz,fun j x hj=>?_,fun j hj=>h.out j zgp,h.dis,h.own,h.kn,h.tab⟩;rw [bg,dN] at hj;split at hj
 ·rename_i gJ;split at hj
  ·cases hj;subst gJ;exact ho
  ·cases hj
 ·exact h.ob j x hj
theorem Inv.AA {i E k:Nat} {rows:List (List GV)} {x:Value} (h:Inv B K β Γ w) (hi:Γ[i]?=some (.vech E k rows x)):Inv B K β (oset Γ i (.vec E k 0 rows)) w:=by
 obtain ⟨xs,I,M,h3,h4,h5⟩:=h.ob i _ hi;exact h.swap ⟨x,xs,I,M,h3,h4,fun b hb=>⟨fun o _=>h5 b hb o,fun o g ho=>by omega⟩,aO _⟩
theorem Inv.vq {i E k:Nat} {rows:List (List GV)} (h:Inv B K β Γ w) (hi:Γ[i]?=some (.vec E k 0 rows)):∃ a c,β i=.gr (.slice a rows.length c) rows.length/\Inv B K β (oset Γ i (.vech E k rows (.slice a rows.length c))) w:=by
 obtain ⟨x,xs,I,M,h3,h4,h5,h6⟩:=h.ob i _ hi;obtain ⟨a,c,rfl⟩:=M.shape;exact ⟨a,c,I,h.swap ⟨xs,I,M,h3,h4,fun b hb o=>(h5 b hb).1 o G⟩⟩
theorem qX {i:Nat} {x y:Ob} (h:Γ[i]?=some x):(oset Γ i y)[i]?=some y:=by
 have:=(bq h).1;rw [bg,dN];simp [this]
theorem pD {i:Nat} {x y:Ob}:oset (oset Γ i x) i y=oset Γ i y:=by rw [bg,bg,bg,List.set_set]
theorem Inv.gr {i E k:Nat} {rows:List (List GV)} {x:Value} (h:Inv B K β Γ w) (hi:Γ[i]?=some (.vech E k rows x)):β i=.gr x rows.length:=by
 obtain ⟨xs,I,_⟩:=h.ob i _ hi;exact I
theorem Inv.tL {i E k:Nat} {rows:List (List GV)} {x:Value} (h:Inv B K β Γ w) (hi:Γ[i]?=some (.vech E k rows x)):∃ K',cV K K'/\Rel K' β x (.sl k rows)/\Inv B K' β (oset Γ i (.vec E k rows.length rows)) w:=by
 obtain ⟨xs,I,M,h3,h4,h5⟩:=h.ob i _ hi;obtain ⟨K',hK,Fu,bz⟩:=(h.AA hi).iy (qX hi);rw [<-bg,pD] at bz;refine ⟨K',hK,?_,bz⟩
 rcases M.2 with ⟨e5,e6⟩ | ⟨g,cap,cu,e5,_,_,qB,_⟩
 ·have:rows=[]:=gC e6;subst this;subst e5;exact .sl0 _ _ _
 ·subst e5;refine .sl g 0 cap k rows (fun j r hr=>⟨(h4 r (br hr)).1,fun q g' nw=>?_⟩) qB;rw [cL];exact Fu _ g I rfl _ g' (vI h4 hr nw)
end
section
variable {P:Program} {m:Nat} {Q:dG} {fr:List GV} {Γ:List Ob} {ops:Array Oper} {rest:List Oper} {d:Option Tmp} {op:Op} {ty:TypeId} {pos:String} {af:Array Edge}
theorem Wk.iN (E k:Nat):Wk m fr Γ fr (Γ++[.vech E k [] (.slice none 0 0)]):=fun B K β w l hm hI hF=>by
 have cZ:β Γ.length=.no:=hI.out _ (aD _);have bz:=hI.GK (w':=w) (E:=E) (k:=k) (x:=.slice none 0 0) (xs:=[]) (rows:=[]) (Ext.refl w) (jg.nil w 0 E k) (fun b hb=>by cases hb) bm.nil (fun r hr=>by cases hr);have hle:dF β (gk β Γ.length (.gr (.slice none 0 0) ([]:List (List GV)).length)):=jr zgg;refine ⟨K,_,?_,hF.mono (cV.refl K) hle⟩;have hb:gk β Γ.length (.gr (.slice none 0 0) ([]:List (List GV)).length) Γ.length=.gr (.slice none 0 0) ([]:List (List GV)).length:=bG;have:=bz.swap (i:=Γ.length) (y:=.vech E k [] (.slice none 0 0)) ⟨[],hb,jg.nil w 0 E k,bm.nil,(fun r hr=>by cases hr),(fun b hb=>by cases hb)⟩;rw [bg] at this;exact zb8
theorem Wk.oW {t i E k:Nat} {rows:List (List GV)} {x:Value} (ht:cK fr t=.v x) (eZ:jG fr t=true) (bJ:Γ[i]?=some (.vech E k rows x)):Wk m fr Γ (bp fr t (.sl k rows)) (oset Γ i (.vec E k rows.length rows)):=fun B K β w l hm hI hF=>by
 obtain ⟨K',hK,hr,bz⟩:=hI.tL bJ;refine ⟨K',β,bz,?_⟩;have hv:nth l t=x:=Rel.fF (by rw [<-ht];exact hF.nth t);have:=(hF.mono hK (dF.refl β)).fS t hr;rw [<-hv,CP (nC hF eZ)] at this;exact this
theorem bm.bp {K:Fz} {β:Bt} {x:Value} {g:GV} (hr:Rel K β x g):∀ {vs:List Value} {cs:List GV} {o:Nat},bm K β vs cs->cs[o]?=some (.v x)->bm K β vs (bp cs o g):=by
 intro vs
 induction vs with
 | nil=>intro cs o h ho;exact zdM
 | cons v vs ih =>
  intro cs o h ho
  cases cs with
  | nil=>simp at ho
  | cons c cs =>
   obtain ⟨a1,a2⟩:=h.pL
   cases o with
   | zero=>cases ho;have hv:=Rel.fF a1;subst hv;exact .cons hr a2
   | succ o=>exact .cons a1 (ih a2 (by simpa using ho))
theorem Wk.sr {i o j E k:Nat} {T:TypeId} {cs:List GV} {rows:List (List GV)} {x:Value} (hi:Γ[i]?=some (.box T cs)) (ho:cs[o]?=some (.v x)) (gJ:Nat.beq i j=false) (hj:Γ[j]?=some (.vech E k rows x)):Wk m fr Γ fr (oset (oset Γ j (.vec E k rows.length rows)) i (.box T (bp cs o (.sl k rows)))):=fun B K β w l hm hI hF=>by
 have cn:i≠j:=by intro e;subst e;simp at gJ
 obtain ⟨K',hK,hr,bz⟩:=hI.tL hj;obtain ⟨b,vs,I,M,h3,h4⟩:=bz.ob i (.box T cs) zf5;exact ⟨K',β,bz.swap ⟨b,vs,I,M,bm.bp hr h3 ho,h4⟩,hF.mono hK (dF.refl β)⟩
def eL:List (List GV)->Nat->Nat->GV->List (List GV)
 | [],_,_,_=>[]
 | r::rs,0,o,g=>bp r o g::rs
 | r::rs,n+1,o,g=>r::eL rs n o g
theorem Hm:∀ (l:List GV) (o:Nat) (g:GV),(bp l o g).length=l.length
 | [],_,_=>rfl
 | _::l,0,_=>rfl
 | _::l,o+1,g=>by simp [bp,Hm l o g]
theorem Ci:∀ (a b:List GV) (o:Nat) (g:GV),bp (a++b) (a.length+o) g=a++bp b o g
 | [],b,o,g=>by simp
 | x::a,b,o,g=>by
  rw [cons_append,length_cons,show a.length+1+o=(a.length+o)+1 by omega,bp,Ci a b o g];rfl
theorem Fl:∀ (a b:List GV) (o:Nat) (g:GV),o < a.length->bp (a++b) o g=bp a o g++b
 | [],b,o,g,h=>by simp at h
 | x::a,b,0,g,h=>rfl
 | x::a,b,o+1,g,h=>by simp [bp,Fl a b o g zfP]
theorem R6 {l:List GV} {o:Nat} {g x:GV} (h:x∈bp l o g):x∈l\/x=g:=by
 induction l generalizing o with
 | nil=>cases h
 | cons y l ih =>
  cases o with
  | zero =>
   simp only [bp,List.mem_cons] at h;rcases h with h | h
   ·exact .inr h
   ·exact .inl (cU _ h)
  | succ o =>
   simp only [bp,List.mem_cons] at h;rcases h with h | h
   ·exact .inl (by rw [h];exact mem_cons_self)
   ·exact (ih h).imp (cU _) id
theorem jo:∀ (rows:List (List GV)) (i o:Nat) (g:GV),(eL rows i o g).length=rows.length
 | [],_,_,_=>rfl
 | r::rs,0,_,_=>rfl
 | r::rs,n+1,o,g=>by simp [eL,jo rs n o g]
theorem wJ {k:Nat} {o:Nat} {g:GV} (ho:o < k):∀ {rows:List (List GV)} {i:Nat},gX k rows->i < rows.length->(eL rows i o g).flatten=bp rows.flatten (i * k+o) g
 | [],_,_,h=>by simp at h
 | r::rs,0,hk,_=>by
  have:=(hk r (mem_cons_self)).1;rw [eL,flatten_cons,flatten_cons,Nat.zero_mul,cL,Fl _ _ _ _ G]
 | r::rs,n+1,hk,h=>by
  have:=(hk r (mem_cons_self)).1;rw [eL,flatten_cons,flatten_cons,wJ ho (fun r hr=>hk r (cU _ hr)) zfP,show (n+1) * k+o=r.length+(n * k+o) by rw [Nat.succ_mul];omega,Ci]
theorem A7 {k:Nat} {o:Nat} {g:GV} (hg:g.pc=true):∀ {rows:List (List GV)} {i:Nat},gX k rows->gX k (eL rows i o g)
 | [],_,_=>fun r hr=>by cases hr
 | r::rs,0,hk=>fun r' hr=>by
  simp only [eL,List.mem_cons] at hr
  rcases hr with rfl | hr
  ·exact ⟨by rw [Hm];exact (hk r mem_cons_self).1,fun x hx=>by
    rcases R6 hx with h | h
    ·exact (hk r mem_cons_self).2 x h
    ·rw [h];exact hg⟩
  ·exact hk r' (cU _ hr)
 | r::rs,n+1,hk=>fun r' hr=>by
  simp only [eL,List.mem_cons] at hr
  rcases hr with rfl | hr
  ·exact hk _ mem_cons_self
  ·exact A7 hg (fun r hr=>hk r (cU _ hr)) r' hr
theorem yR {a b:List (List GV)} {r:List GV} {o:Nat} {g:GV}:eL (a++r::b) a.length o g=a++bp r o g::b:=by
 induction a with
 | nil=>rfl
 | cons x a ih=>rw [cons_append,length_cons,eL,ih];rfl
theorem Wk.Gv {i idx o j E k T k':Nat} {rows ks:List (List GV)} {x h:Value} {r:List GV} (hi:Γ[i]?=some (.vech T k rows h)) (hr:rows[idx]?=some r) (ho:r[o]?=some (.v x)) (gJ:Nat.beq i j=false) (hj:Γ[j]?=some (.vech E k' ks x)) :
  Wk m fr Γ fr (oset (oset Γ j (.vec E k' ks.length ks)) i (.vech T k (eL rows idx o (.sl k' ks)) h)):=fun B K β w l hm hI hF=>by
 have cn:i≠j:=by intro e;subst e;simp at gJ
 obtain ⟨K',hK,fT,bz⟩:=hI.tL hj;obtain ⟨xs,I,M,h3,h4,h5⟩:=bz.ob i (.vech T k rows h) zf5;have aj:=(bq hr).1
 have Pv:o < k:=by rw [<-(h4 r (br hr)).1];exact (bq ho).1
 exact ⟨K',β,bz.swap ⟨xs,by rw [jo];exact I,by rw [jo];exact M,by rw [wJ Pv h4 aj];exact bm.bp fT h3 (vI h4 hr ho),A7 rfl h4,h5⟩,hF.mono hK (dF.refl β)⟩
theorem YG.eX {x y:Operand} {t e:TypeId} {k:Nat} [hT:oP P t e k] (i:Nat) {v:Value} {kk:IntKind} {j E:Nat} {rows:List (List GV)} (hx:be fr x=.v v) (hy:be fr y=.v (.int kk j)) (bJ:Γ[i]?=some (.vech E k rows v)) (hj:j < rows.length):YG P (.indexAddr t x y) fr Γ (.vp i rows.length k j 0):=fun B K β w l hI hF=>by
 have hv:=hF.kq hx;obtain ⟨xs,I,M,h3,h4,h5⟩:=hI.ob i _ bJ
 rcases M.2 with ⟨h8,h9⟩ | ⟨g,cap,cur,h8,_,hg,_⟩
 ·omega
 ·subst h8;exact ⟨_,R.z6 hv (hF.kq hy) hj,.vp i _ k j 0 _ ⟨_,_,I,aD _,fun _=>⟨g,rfl,by simp⟩⟩⟩
theorem YG.W8 {x:Operand} {s:TypeId} {f off k:Nat} {agg:Bool} [hT:ef P s f off k agg] {i n k' idx o E:Nat} {rows:List (List GV)} {v:Value} (hx:be fr x=.vp i n k' idx o) (bJ:Γ[i]?=some (.vech E k' rows v)) (hn:rows.length=n):YG P (.fieldAddr s x f) fr Γ (.vp i n k' idx (o+off)):=fun B K β w l hI hF=>by
 have h:=hF.ev x;rw [hx] at h;generalize hv:ev l x=u at h
 cases h with
 | vp _ _ _ _ _ _ h =>
  obtain ⟨h0,m,I,M,h3⟩:=h;rw [hI.gr bJ] at I;cases I;obtain ⟨b,hb,rfl⟩:=h3 hn;exact ⟨_,R.RW hv,.vp i n k' idx _ _ ⟨_,_,hI.gr bJ,M,fun _=>⟨b,hb,by rw [gn]⟩⟩⟩
theorem YG.ldH {x:Operand} {t:TypeId} [hT:Ty P t false 1] {i n k idx o E:Nat} {rows:List (List GV)} {v:Value} {r:List GV} {g:GV} (hx:be fr x=.vp i n k idx o) (bJ:Γ[i]?=some (.vech E k rows v)) (hn:rows.length=n) (hr:rows[idx]?=some r) (hg:r[o]?=some g):YG P (.load t x) fr Γ g:=fun B K β w l hI hF=>by
 have h:=hF.ev x;rw [hx] at h;generalize hv:ev l x=u at h
 cases h with
 | vp _ _ _ _ _ _ h =>
  obtain ⟨h0,m,I,M,h3⟩:=h;obtain ⟨xs,h4,h5,h6,h7,_⟩:=hI.ob i _ bJ;rw [I] at h4;cases h4;obtain ⟨b,hb,rfl⟩:=h3 hn;obtain ⟨u,hu,fT⟩:=h6.at (vI h7 hr hg);obtain ⟨b2,c,he,_,_,hc⟩:=h5.cells.2 (by intro h0;rw [h0] at hu;simp at hu);subst he;cases hb;exact ⟨u,R.ld hv (by rw [<-gw];exact hc _ _ hu),fT⟩
theorem CQ {v:Value}:∀ (l:List Value) (n o:Nat),o < n->(fS l o v).take n=fS (l.take n) o v
 | [],n,o,h=>by simp [fS]
 | x::l,0,o,h=>by omega
 | x::l,n+1,0,h=>by simp [fS]
 | x::l,n+1,o+1,h=>by simp [fS,CQ l n o G]
theorem yY {v:Value}:∀ (l:List Value) (o:Nat),(fS l o v).length=l.length
 | [],o=>rfl
 | x::l,0=>rfl
 | x::l,o+1=>by simp [fS,yY l o]
theorem GL.stH {x y:Operand} {t:TypeId} [hT:Ty P t false 1] {i n k idx o E:Nat} {rows:List (List GV)} {v:Value} {r:List GV} {g:GV} (hx:be fr x=.vp i n k idx o) (bJ:Γ[i]?=some (.vech E k rows v)) (hn:rows.length=n) (hr:rows[idx]?=some r) (Pv:Nat.blt o r.length=true)
  (hy:nu (be fr y)=some [g]) (I:g.one=true) (hp:g.pc=true) (h:GL P m ops Q rest (bC fr d (.v undef)) (oset Γ i (.vech E k (eL rows idx o g) v))):GL P m ops Q (⟨d,.store t x y,ty,pos,af,none⟩::rest) fr Γ:=fun B K β w l hm hI hF=>by
 have HN:=hF.ev x;rw [hx] at HN;generalize hv:ev l x=u at HN
 cases HN with
 | vp _ _ _ _ _ _ hh =>
  obtain ⟨h0,mm,e1,e2,e3⟩:=hh;obtain ⟨xs,h4,h5,h6,h7,h8⟩:=hI.ob i _ bJ;rw [e1] at h4;cases h4;obtain ⟨b,hb,rfl⟩:=e3 hn;have aj:=(bq hr).1
  have abE:o < k:=by rw [<-(h7 r (br hr)).1];simpa using Pv
  obtain ⟨us,kA,kZ⟩:=(hF.ev y).cells hy
  obtain ⟨u1,rfl⟩:∃ u1,us=[u1]:=by
   have:=kZ.1
   match us,this with
   | [u1],_=>exact ⟨u1,rfl⟩
  have hu3:Rel K β u1 g:=kZ.2 0 u1 g rfl rfl
  have hq:idx * k+o < rows.length * k:=by
   exact zd5
  rcases h5.2 with ⟨e5,e6⟩ | ⟨g0,cap,cur,e5,Mm,hg,qB,y9,cX,jQ⟩
  ·omega
  ·subst e5;simp only [Value.ownBlock,Option.some.injEq] at hb;subst hb;have R8:rows.length * k<=cap * k:=sD k qB
   refine WL.st (t:=t) (k:=1) hv rfl hg (by rw [kA];rfl) G (by rw [kA];have:=(yL (hu3.one I)).2;simpa [Xw.mV] using this) fun w' hs=>?_
   rw [kA] at hs
   have fk:vL cur (idx * k+o) ([u1]:List Value)=(fS cur.toList (idx * k+o) u1).toArray:=by
    simp only [vL];rw [<-AB]
   simp only [toList_toArray,fk] at hs
   have AW:rows.flatten.length=rows.length * k:=by rw [<-h6.1];exact h5.1
   have how:jg w' 0 E k (.slice (some ⟨g0,0,none⟩) rows.length cap) rows.length (fS xs (idx * k+o) u1) :=
    ⟨by rw [yY];exact h5.1,.inr ⟨g0,cap,_,rfl,Mm,hs.blk,qB,y9,by simp [yY,cX],by rw [toList_toArray,CQ _ _ _ hq,jQ]⟩⟩
   have fT:bm K β (fS xs (idx * k+o) u1) (bp rows.flatten (idx * k+o) g):=by
    have gen:∀ (vs:List Value) (cs:List GV) (q:Nat),bm K β vs cs->bm K β (fS vs q u1) (bp cs q g):=by
     intro vs
     induction vs with
     | nil=>intro cs q h;have:cs=[]:=gC h.1.symm;subst this;exact h
     | cons v vs ih =>
      intro cs q h
      cases cs with
      | nil=>have:=h.1;simp at this
      | cons c cs =>
       obtain ⟨a1,a2⟩:=h.pL
       cases q with
       | zero=>exact .cons hu3 a2
       | succ q=>exact .cons a1 (ih cs q a2)
    exact gen _ _ _ h6
   have eT:(β i).blk=some g0:=by rw [e1];rfl
   have bz:Inv B K β (oset Γ i (.vech E k (eL rows idx o g) (.slice (some ⟨g0,0,none⟩) rows.length cap))) w':=by
    refine ⟨hI.ext.step hs.ext (fun j hj=>?_),hI.kle,hI.ble,hI.loc,hI.fz.ext hs.ext (fun b' o' g' nw he=>?_),fun j y hj=>?_,fun j hj=>hI.out j zgp,hI.dis,hI.own,hI.kn,hI.tab.step hs.ext (fun j hj=>⟨i,by subst hj;exact eT⟩) (cV.refl K) (fun i b2 h=>.inl ⟨i,h⟩)⟩
    ·subst hj;exact (hI.own i _ eT).symm
    ·subst he;rw [h8 _ rfl] at nw;cases nw
    ·rw [bg,dN] at hj;split at hj
     ·rename_i gJ;split at hj
      ·cases hj;subst gJ
       exact ⟨_,by rw [jo];exact e1,by rw [jo];exact how,by rw [wJ abE h7 aj];exact fT,A7 hp h7,h8⟩
      ·cases hj
     ·exact zbT
   exact zdT
theorem GL.gh {x:Operand} {ts:Tmp} {t e k iP:Nat} {z:List Value} [hT:qd P t e k iP] [hZ:rJ P t e k z] {d1 dt:Tmp} {QZ:TypeId} {Iu:String} {N0:Array Edge} (i:Nat) {n:Nat} {rows:List (List GV)} {gs:List GV} {v:Value}
  (hx:nu (be fr x)=some gs) (hk:Nat.beq gs.length k=true) (I:np gs=true) (hp:pE gs=true) (hs:cK fr ts=.v v) (Yi:Nat.beq ts d1=false) (hd:jG fr d1=true) (bJ:Γ[i]?=some (.vech e k rows v)) (hn:rows.length=n)
  (hb:(n+1<=9223372036854775807/\(n+1) * iP<=140737488355328)/\k<=16777216)
  (h:∀ a c,GL P m ops Q rest (bC (bC fr (some d1) U) (some dt) (.v (.slice a (n+1) c))) (oset Γ i (.vech e k (rows++[gs]) (.slice a (n+1) c)))) :
  GL P m ops Q (⟨some d1,.buildSlice t 1 #[(0,x)],QZ,Iu,N0,none⟩::⟨some dt,.call ⟨.builtin .append,#[.tmp ts,.tmp d1],#[t,t]⟩,ty,pos,af,none⟩::rest) fr Γ:=fun B K β w l hm hI hF=>by
 subst hn;obtain ⟨us,kA,kZ⟩:=(hF.ev x).cells hx;obtain ⟨xs,o1,o2,o3,o4,o5⟩:=hI.ob i _ bJ;have sJ:nth l ts=v:=Rel.fF (by rw [<-hs];exact hF.nth ts);have Pf:=nC hF hd
 have abA:ts≠d1:=by intro e;subst e;simp at Yi
 have nz:gs.length=k:=by simpa using hk
 refine WL.push (base:=0) (v:=v) (vs:=us) (val:=ev l x) (xs:=xs) (n:=rows.length) rfl (fun u=>by rw [show ev (put l (some d1) u) (.tmp ts)=nth (fS l d1 u) ts from rfl,ki abA];exact sJ) (fun u=>td Pf u) kA (by rw [kZ.1,nz]) (kZ.mV I) o2 hb.1.1 hb.1.2 hb.2 (aO _) ?_;intro u v' w' how ji wo xt;obtain ⟨K',hK,sK,bz⟩:=(hI.AA bJ).grow (fz:=0) (qX bJ) o1 ⟨o2,o3⟩ (news:=[gs]) (ns:=us) how ji wo (by simpa using kZ) (fun r hr=>by simp at hr;subst hr;exact ⟨nz,mc hp⟩) zfL (fun b bA o v ho hv=>by omega);rw [<-bg,pD] at bz;obtain ⟨a,c,rT,rj⟩:=bz.vq (qX bJ);rw [pD] at rj;obtain ⟨a',c',rfl⟩:=how.shape;rw [bG] at rT;simp only [aM,length_cons,length_nil] at rT rj sK;cases rT;exact h _ _ B K' _ w' _ hm rj (((hF.mono hK sK).put (some d1) (.U u)).put (some dt) (.v _))
theorem GL.qP {s x:Operand} {t e k iP:Nat} [hT:qd P t e k iP] (i:Nat) {n:Nat} {dt:Tmp} {v:Value} {rows news:List (List GV)} (hx:be fr x=.sl k news) (hs:be fr s=.v v) (bJ:Γ[i]?=some (.vech e k rows v)) (hn:rows.length=n) (I:kC news=true) (cn:news.isEmpty=false)
  (hb:n+news.length<=9223372036854775807/\(n+news.length) * iP<=140737488355328)
  (h:∀ a c,GL P m ops Q rest (bC fr (some dt) (.v (.slice a (n+news.length) c))) (oset Γ i (.vech e k (rows++news) (.slice a (n+news.length) c)))) :
  GL P m ops Q (⟨some dt,.call ⟨.builtin .append,#[s,x],#[t,t]⟩,ty,pos,af,none⟩::rest) fr Γ:=fun B K β w l hm hI hF=>by
 subst hn
 have cn:news≠[]:=by intro h0;rw [h0] at cn;cases cn
 obtain ⟨xs,o1,o2,o3,o4,o5⟩:=hI.ob i _ bJ;have sJ:ev l s=v:=hF.kq hs;have qE:=hF.ev x;rw [hx] at qE;generalize tX:ev l x=vx at qE
 cases qE with
 | sl0 a c k=>exact absurd rfl cn
 | sl b o c _ _ hr _ =>
  have ni:gX k news:=fun r Px=>by
   exact zbw
  have AW:∀ (rows:List (List GV)) (o:Nat),(∀ (j:Nat) r,rows[j]?=some r->r.length=k/\∀ (q:Nat) g,r[q]?=some g->K b (o+j * k+q)=some g)->∀ (q:Nat) g,rows.flatten[q]?=some g->K b (o+q)=some g:=by
   intro rows
   induction rows with
   | nil=>intro o _ q g hg;simp at hg
   | cons r rows ih =>
    intro o h q g hg;rw [flatten_cons] at hg;have hl:=(h 0 r rfl).1
    by_cases hq:q < r.length
    ·rw [eR hq] at hg;have:=(h 0 r rfl).2 q g hg;exact zb8
    ·rw [fw G,hl] at hg
     have:=ih (o+k) (fun j r' hj=>by
      have:=h (j+1) r' zf4;refine ⟨this.1,fun q g hg=>?_⟩;have:=this.2 q g hg
      rw [show o+(j+1) * k+q=o+k+j * k+q by rw [Nat.succ_mul];omega] at this;exact this) (q - k) g hg
     rw [show o+k+(q - k)=o+q by omega] at this;exact this
  obtain ⟨us,kA,kZ⟩:=yh (K:=K) (β:=β) (H:=w.heap) (b:=b) news.flatten o (fun j g hj=>by
   obtain ⟨hp,u,hu,fT⟩:=hI.fz _ _ _ (AW news o (fun j r hj=>hr j r hj) j g hj)
   exact ⟨u,hu,fT.pc hp⟩)
  have zY:us.length=news.length * k:=by
   rw [kA.1,List.length_flatten]
   have:∀ (rows:List (List GV)),gX k rows->(rows.map List.length).sum=rows.length * k:=by
    intro rows
    induction rows with
    | nil=>intro _;simp
    | cons r rows ih =>
     intro hk;exact zcs
   exact this news ni
  refine WL.app (base:=0) (v:=v) (n:=rows.length) (m:=news.length) (xs:=xs) (news:=us) sJ o2 tX zY (fun j u hj=>by rw [gw];exact kZ j u hj) (kA.mV (DF I)) hb.1 hb.2 (aO _) ?_;intro v' w' how ji wo xt;obtain ⟨K',hK,sK,bz⟩:=(hI.AA bJ).grow (fz:=0) (qX bJ) o1 ⟨o2,o3⟩ (news:=news) (ns:=us) how ji wo kA ni cn (fun b bA o v ho hv=>by omega);rw [<-bg,pD] at bz;obtain ⟨a,c,rT,rj⟩:=bz.vq (qX bJ);rw [pD] at rj;obtain ⟨a',c',rfl⟩:=how.shape;rw [bG] at rT;simp only [aM] at rT rj sK;cases rT;exact zeA
end
theorem F6:∀ (us vs:List Value) (o n:Nat),o+us.length<=n->(jq vs o us).take n=jq (vs.take n) o us
 | [],vs,o,n,_=>rfl
 | u::us,vs,o,n,h=>by
  rw [length_cons] at h;rw [jq,jq,F6 us _ _ _ G,CQ _ _ _ G]
theorem zG (a:List GV):∀ (gs b:List GV) (o:Nat),pX (a++b) (a.length+o) gs=a++pX b o gs
 | [],b,o=>rfl
 | g::gs,b,o=>by rw [pX,pX,Ci,gn,zG a gs]
theorem C5:∀ (gs a b:List GV),a.length=gs.length->pX (a++b) 0 gs=gs++b
 | [],[],b,_=>rfl
 | [],x::a,b,h=>by simp at h
 | g::gs,[],b,h=>by simp at h
 | g::gs,x::a,b,h=>by
  rw [pX,cons_append,bp];have:=zG [g] gs (a++b) 0;simp only [length_cons,length_nil,cons_append,List.nil_append,cL,Nat.add_zero] at this |-;rw [this,C5 gs a b zfP]
theorem Ix {k:Nat} {gs:List GV} (hg:gs.length=k):∀ {rows:List (List GV)} {i:Nat},gX k rows->i < rows.length->pX rows.flatten (i * k) gs=(rows.set i gs).flatten
 | [],_,_,h=>by simp at h
 | r::rs,0,hk,_=>by
  rw [flatten_cons,List.set_cons_zero,flatten_cons,Nat.zero_mul,C5 gs r _ (by rw [hg];exact (hk r mem_cons_self).1)]
 | r::rs,n+1,hk,h=>by
  have hr:=(hk r mem_cons_self).1;rw [flatten_cons,List.set_cons_succ,flatten_cons,<-Ix hg (fun r hr=>hk r (cU _ hr)) zfP,show (n+1) * k=r.length+n * k by rw [Nat.succ_mul];omega,zG]
theorem Ni {k:Nat} {gs:List GV} (hg:gs.length=k) (hp:pE gs=true) {rows:List (List GV)} {i:Nat} (h:gX k rows):gX k (rows.set i gs):=fun r hr=>by
 rcases List.mem_or_eq_of_mem_set hr with hr | rfl
 ·exact h r hr
 ·exact ⟨hg,mc hp⟩
section
variable {P:Program} {m:Nat} {ops:Array Oper} {Q:dG} {rest:List Oper} {fr:List GV} {Γ:List Ob} {d:Option Tmp} {ty:TypeId} {pos:String} {af:Array Edge}
theorem GL.ab3 {x y:Operand} {t:TypeId} {agg:Bool} {k:Nat} [hT:Ty P t agg k] {i n idx E:Nat} {rows:List (List GV)} {v:Value} {gs:List GV} (hx:be fr x=.vp i n k idx 0) (bJ:Γ[i]?=some (.vech E k rows v)) (hn:rows.length=n) (aj:idx < rows.length)
  (hy:nu (be fr y)=some gs) (hk:Nat.beq gs.length k=true) (I:np gs=true) (hp:pE gs=true) (h:GL P m ops Q rest (bC fr d (.v undef)) (oset Γ i (.vech E k (rows.set idx gs) v))):GL P m ops Q (⟨d,.store t x y,ty,pos,af,none⟩::rest) fr Γ:=fun B K β w l hm hI hF=>by
 have hk:gs.length=k:=by simpa using hk
 have HN:=hF.ev x;rw [hx] at HN;generalize hv:ev l x=u at HN
 cases HN with
 | vp _ _ _ _ _ _ hh =>
  obtain ⟨h0,mm,e1,e2,e3⟩:=hh;obtain ⟨xs,h4,h5,h6,h7,h8⟩:=hI.ob i _ bJ;rw [e1] at h4;cases h4;obtain ⟨b,hb,rfl⟩:=e3 hn;obtain ⟨us,kA,kZ⟩:=(hF.ev y).cells hy
  have zY:us.length=k:=by rw [kZ.1,hk]
  have hq:idx * k+k<=rows.length * k:=by
   exact zd5
  rcases h5.2 with ⟨e5,e6⟩ | ⟨g0,cap,cur,e5,Mm,hg,qB,y9,cX,jQ⟩
  ·omega
  ·subst e5;simp only [Value.ownBlock,Option.some.injEq] at hb;subst hb;have R8:rows.length * k<=cap * k:=sD k qB
   refine WL.st (t:=t) (k:=k) hv rfl hg zgB (by rw [Nat.add_zero];omega) zge fun w' hs=>?_
   rw [kA,toList_toArray,Nat.add_zero] at hs;obtain ⟨cur⟩:=cur;rw [uc] at hs;simp only [List.size_toArray,toList_toArray] at cX jQ
   have how:jg w' 0 E k (.slice (some ⟨g0,0,none⟩) rows.length cap) rows.length (jq xs (idx * k) us) :=
    ⟨by rw [CM];exact h5.1,.inr ⟨g0,cap,_,rfl,Mm,hs.blk,qB,y9,by simp [CM,cX],by rw [toList_toArray,F6 _ _ _ _ G,jQ]⟩⟩
   have fT:bm K β (jq xs (idx * k) us) (pX rows.flatten (idx * k) gs):=kZ.jq _ h6;rw [Ix hk h7 aj] at fT
   have eT:(β i).blk=some g0:=by rw [e1];rfl
   have bz:Inv B K β (oset Γ i (.vech E k (rows.set idx gs) (.slice (some ⟨g0,0,none⟩) rows.length cap))) w':=by
    refine ⟨hI.ext.step hs.ext (fun j hj=>?_),hI.kle,hI.ble,hI.loc,hI.fz.ext hs.ext (fun b' o' g' nw he=>?_),fun j y hj=>?_,fun j hj=>hI.out j zgp,hI.dis,hI.own,hI.kn,hI.tab.step hs.ext (fun j hj=>⟨i,by subst hj;exact eT⟩) (cV.refl K) (fun i b2 h=>.inl ⟨i,h⟩)⟩
    ·subst hj;exact (hI.own i _ eT).symm
    ·subst he;rw [h8 _ rfl] at nw;cases nw
    ·rw [bg,dN] at hj;split at hj
     ·rename_i gJ;split at hj
      ·cases hj;subst gJ
       exact ⟨_,by rw [List.length_set];exact e1,by rw [List.length_set];exact how,fT,Ni hk hp h7,h8⟩
      ·cases hj
     ·exact zbT
   exact zdT
theorem WG (n:Nat) (z:List Value):(List.replicate n (mH z)).flatten=zs n z:=by
 induction n with
 | zero=>rfl
 | succ n ih=>rw [List.replicate_succ,flatten_cons,ih,zs]
theorem GL.BL {x:Operand} {t e k iP:Nat} {z:List Value} [hT:qd P t e k iP] [hZ:rJ P t e k z] {dt:Tmp} {n:Nat} (hx:be fr x=.v (ii (n:Nat))) (hb:n<=1099511627776/\iP * n<=281474976710656)
  (h:∀ a c,GL P m ops Q rest (bC fr (some dt) (.v (.slice a n c))) (Γ++[.vech e k (List.replicate n (mH z)) (.slice a n c)])) :
  GL P m ops Q (⟨some dt,.makeSlice t x x,ty,pos,af,none⟩::rest) fr Γ:=fun B K β w l hm hI hF=>by
 obtain ⟨hu,⟨i,z0,hi,hz,PI,cX,zL⟩,hk⟩:=hT.parts;have tX:ev l x=ii (n:Nat):=hF.kq hx;obtain ⟨w',hr,M,h3⟩:=run_make_full (P:=P) (w:=w) 0 t e i z0 k hu hi hz cX .i64 .i64 n (by rw [zL];exact hb.2) (by simp only [maxLen];omega) (aO _)
 have HU:z0.cells.toList=z:=by
  have h4:=hZ.zero;rw [hi] at h4;simp only [Option.bind_some,hz,Option.some.injEq] at h4;have hl:=hZ.zl
  by_cases I:k=1
  ·rw [ab I] at h4;rw [h4,hZ.one I];subst I
   match z,hl with
   | [a],_=>rfl
  ·rw [F I] at h4;rw [h4];rfl
 have Hv:(madeCells z0.cells (n * k)).toList=(List.range (n * k)).map fun j=>z.getD (j % k) undef:=by
  unfold madeCells;rw [Array.toList_map,Array.toList_range];apply List.map_congr_left;intro j _
  have aj:j % k < z0.cells.size:=by rw [PI];exact Nat.mod_lt _ hk
  rw [PI,getElem!_pos z0.cells (j % k) aj,<-HU,List.getD_eq_getElem?_getD,Array.getElem?_toList,Array.getElem?_eq_getElem aj];rfl
 rw [Hv] at M;have fT:=Jf (K:=K) (β:=β) (n:=n) hZ.zl hZ.pos;rw [<-WG] at fT
 have fo:gX k (List.replicate n (mH z)):=fun r hr=>by
  have:=List.eq_of_mem_replicate hr;subst this;refine ⟨by rw [<-hZ.zl];simp [mH],fun g hg=>?_⟩;unfold mH at hg;obtain ⟨v,_,rfl⟩:=oX.1 hg;rfl
 have ji:Ext iD w w':=⟨h3.os,h3.tape,h3.output,h3.size,fun j hj _=>h3.block j hj zfL⟩;have bz:=hI.GK (x:=.slice (some ⟨w.heap.size,0,none⟩) n n) (rows:=List.replicate n (mH z)) ji (by rw [List.length_replicate];exact M) (fun b hb=>by cases hb;exact aD _) fT fo
 have abp:(Γ++[Ob.vec e k 0 (List.replicate n (mH z))])[Γ.length]?=some (Ob.vec e k 0 (List.replicate n (mH z))):=by simp
 obtain ⟨a,c,rT,rj⟩:=bz.vq abp;rw [bG] at rT
 injection rT with pj fJ
 injection pj with zJ hb4 hb5
 subst zJ hb5
 have hos:oset (Γ++[.vec e k 0 (List.replicate n (mH z))]) Γ.length (.vech e k (List.replicate n (mH z)) (.slice (some ⟨w.heap.size,0,none⟩) (List.replicate n (mH z)).length n))=Γ++[.vech e k (List.replicate n (mH z)) (.slice (some ⟨w.heap.size,0,none⟩) (List.replicate n (mH z)).length n)]:=by
  rw [bg];simp
 rw [hos,List.length_replicate] at rj;refine WL.val (v:=.slice (some ⟨w.heap.size,0,none⟩) n n) (w':=w') (by simp [execOp,tX,hr]) ?_;exact h _ _ B K _ w' _ hm rj ((hF.mono (cV.refl K) (jr (by rw [hI.out _ (aD _)];trivial))).put (some dt) (.v _))
end
end Go.Xg
set_option maxHeartbeats 2000000
namespace Go.Xg
open Go.RowKit Go.Xw Go.Proofs Tryz
open GV (U)
open Go.Xp (Nd Ar)
open Go.Sp (Src)
open Go.Im (wS eo bj pK ud iY eM pJ pI pH mR mQ mP)
attribute [local irreducible] GW GL GO YG GC GA aW aZ
theorem Tt (l:List Int) (hl:l.length<=1048576):GF prog 138 [ints l] [] (ints l) []:=by
 have hm:(l.map (fun i=>[GV.v (ii i)])).length=l.length:=by simp
 refine ah func138 ntmps138 ?_;refine zaY ?_;intro a c;refine zaM ?_;refine GW.loop (fun k:Nat=>l.length - k) (fun k fr Γ=>∃ R Z,fr=[ints l,U,U,.v (.slice a (l.map (fun i=>[GV.v (ii i)])).length c),.v (ii (k:Nat)),U,U,U,U,U,U,U,U,U,U,U,U,U,U,U,U,U]/\Γ=[.vech 3 1 R (.slice a (l.map (fun i=>[GV.v (ii i)])).length c)]/\k<=l.length/\R=(l.take k).map (fun i=>[GV.v (ii i)])++List.replicate (l.length - k) Z) 0 ?_ ?_
 ·exact zau
 rintro k _ _ ⟨R,Z,rfl,rfl,hk,hR⟩
 have nc:R.length=l.length:=by rw [hR];exact mQ hk
 have fY:R.length=(l.map (fun i=>[GV.v (ii i)])).length:=by rw [hm];exact nc
 by_cases aj:k < l.length
 ·have hx:l[k]?=some l[k]:=by simp [aj]
  have hr:(l.map (fun i=>[GV.v (ii i)]))[k]?=some ([GV.v (ii l[k])]):=by rw [aS,hx];rfl
  have dW:decide ((k:Int) < ((l.map (fun i=>[GV.v (ii i)])).length:Int))=true:=by rw [hm];simpa using aj
  exact zfl
 ·have dW:decide ((k:Int) < ((l.map (fun i=>[GV.v (ii i)])).length:Int))=false:=by rw [hm];simpa using aj
  have nA:k=l.length:=by omega
  subst nA;rw [mP] at hR;subst hR;refine cm ?_;refine GW.wk zf0 ?_;exact zdv
theorem BW (l:List ae) (hl:l.length<=1048576):GF prog 31 [strs l] [] (strs l) []:=by
 have hm:(l.map (fun s=>[GV.v (sv s)])).length=l.length:=by simp
 refine ah func31 ntmps31 ?_;refine zaY ?_;intro a c;refine zaM ?_;refine GW.loop (fun k:Nat=>l.length - k) (fun k fr Γ=>∃ R Z,fr=[strs l,U,U,.v (.slice a (l.map (fun s=>[GV.v (sv s)])).length c),.v (ii (k:Nat)),U,U,U,U,U,U,U,U,U,U,U,U,U,U,U,U,U]/\Γ=[.vech 9 1 R (.slice a (l.map (fun s=>[GV.v (sv s)])).length c)]/\k<=l.length/\R=(l.take k).map (fun s=>[GV.v (sv s)])++List.replicate (l.length - k) Z) 0 ?_ ?_
 ·exact zau
 rintro k _ _ ⟨R,Z,rfl,rfl,hk,hR⟩
 have nc:R.length=l.length:=by rw [hR];exact mQ hk
 have fY:R.length=(l.map (fun s=>[GV.v (sv s)])).length:=by rw [hm];exact nc
 by_cases aj:k < l.length
 ·have hx:l[k]?=some l[k]:=by simp [aj]
  have hr:(l.map (fun s=>[GV.v (sv s)]))[k]?=some ([GV.v (sv l[k])]):=by rw [aS,hx];rfl
  have dW:decide ((k:Int) < ((l.map (fun s=>[GV.v (sv s)])).length:Int))=true:=by rw [hm];simpa using aj
  exact zfm
 ·have dW:decide ((k:Int) < ((l.map (fun s=>[GV.v (sv s)])).length:Int))=false:=by rw [hm];simpa using aj
  have nA:k=l.length:=by omega
  subst nA;rw [mP] at hR;subst hR;refine cm ?_;refine GW.wk zf0 ?_;exact zdv
theorem Ga (x:Ar):GF prog 86 [.agg (aB x)] [] (.agg (aB x)) []:=by
 refine ah func86 ntmps86 ?_;exact ed
theorem Nw (l:List Ar) (hl:l.length<=1048576):GF prog 32 [.sl 2 (l.map aB)] [] (.sl 2 (l.map aB)) []:=by
 have hm:(l.map aB).length=l.length:=by simp
 refine ah func32 ntmps32 ?_;refine zaY ?_;intro a c;refine zaM ?_;refine GW.loop (fun k:Nat=>l.length - k) (fun k fr Γ=>∃ R Z,fr=[.sl 2 (l.map aB),U,U,.v (.slice a (l.map aB).length c),.v (ii (k:Nat)),U,U,U,U,U,U,U,U,U,U,U,U,U,U,U,U,U,U]/\Γ=[.vech 56 2 R (.slice a (l.map aB).length c)]/\k<=l.length/\R=(l.take k).map aB++List.replicate (l.length - k) Z) 0 ?_ ?_
 ·exact zau
 rintro k _ _ ⟨R,Z,rfl,rfl,hk,hR⟩
 have nc:R.length=l.length:=by rw [hR];exact mQ hk
 have fY:R.length=(l.map aB).length:=by rw [hm];exact nc
 by_cases aj:k < l.length
 ·have hx:l[k]?=some l[k]:=by simp [aj]
  have hr:(l.map aB)[k]?=some (aB l[k]):=by rw [aS,hx];rfl
  have dW:decide ((k:Int) < ((l.map aB).length:Int))=true:=by rw [hm];simpa using aj
  have cq:=mR (f:=aB) (Z:=Z) hx;rw [<-hR] at cq;have hc:=Ga l[k];exact zbV
 ·have dW:decide ((k:Int) < ((l.map aB).length:Int))=false:=by rw [hm];simpa using aj
  have nA:k=l.length:=by omega
  subst nA;rw [mP] at hR;subst hR;refine cm ?_;refine GW.wk zf0 ?_;exact zdv
theorem Zf (x:Go.Sp.Fn) (hp:x.params.length<=1048576):GF prog 87 [.agg (au x)] [] (.agg (au x)) []:=by
 have h0:=BW x.params hp;refine ah func87 ntmps87 ?_;refine V [] h0 ?_;exact ed
theorem WA (l:List Go.Sp.Fn) (hl:l.length<=1048576) (he:∀ x∈l,x.params.length<=1048576):GF prog 33 [.sl 3 (l.map au)] [] (.sl 3 (l.map au)) []:=by
 have hm:(l.map au).length=l.length:=by simp
 refine ah func33 ntmps33 ?_;refine zaY ?_;intro a c;refine zaM ?_;refine GW.loop (fun k:Nat=>l.length - k) (fun k fr Γ=>∃ R Z,fr=[.sl 3 (l.map au),U,U,.v (.slice a (l.map au).length c),.v (ii (k:Nat)),U,U,U,U,U,U,U,U,U,U,U,U,U,U,U,U,U,U]/\Γ=[.vech 58 3 R (.slice a (l.map au).length c)]/\k<=l.length/\R=(l.take k).map au++List.replicate (l.length - k) Z) 0 ?_ ?_
 ·exact zau
 rintro k _ _ ⟨R,Z,rfl,rfl,hk,hR⟩
 have nc:R.length=l.length:=by rw [hR];exact mQ hk
 have fY:R.length=(l.map au).length:=by rw [hm];exact nc
 by_cases aj:k < l.length
 ·have hx:l[k]?=some l[k]:=by simp [aj]
  have hr:(l.map au)[k]?=some (au l[k]):=by rw [aS,hx];rfl
  have dW:decide ((k:Int) < ((l.map au).length:Int))=true:=by rw [hm];simpa using aj
  have cq:=mR (f:=au) (Z:=Z) hx;rw [<-hR] at cq;have hex:=he _ (br hx);have hc:=Zf l[k] hex;exact zbV
 ·have dW:decide ((k:Int) < ((l.map au).length:Int))=false:=by rw [hm];simpa using aj
  have nA:k=l.length:=by omega
  subst nA;rw [mP] at hR;subst hR;refine cm ?_;refine GW.wk zf0 ?_;exact zdv
theorem Tv (x:Nd) (hp:x.kids.length<=1048576):GF prog 88 [.agg (ay x)] [] (.agg (ay x)) []:=by
 have h0:=Tt x.kids hp;refine ah func88 ntmps88 ?_;refine V [] h0 ?_;exact ed
theorem QU (l:List Nd) (hl:l.length<=1048576) (he:∀ x∈l,x.kids.length<=1048576):GF prog 34 [.sl 5 (l.map ay)] [] (.sl 5 (l.map ay)) []:=by
 have hm:(l.map ay).length=l.length:=by simp
 refine ah func34 ntmps34 ?_;refine zaY ?_;intro a c;refine zaM ?_;refine GW.loop (fun k:Nat=>l.length - k) (fun k fr Γ=>∃ R Z,fr=[.sl 5 (l.map ay),U,U,.v (.slice a (l.map ay).length c),.v (ii (k:Nat)),U,U,U,U,U,U,U,U,U,U,U,U,U,U,U,U,U,U]/\Γ=[.vech 62 5 R (.slice a (l.map ay).length c)]/\k<=l.length/\R=(l.take k).map ay++List.replicate (l.length - k) Z) 0 ?_ ?_
 ·exact zau
 rintro k _ _ ⟨R,Z,rfl,rfl,hk,hR⟩
 have nc:R.length=l.length:=by rw [hR];exact mQ hk
 have fY:R.length=(l.map ay).length:=by rw [hm];exact nc
 by_cases aj:k < l.length
 ·have hx:l[k]?=some l[k]:=by simp [aj]
  have hr:(l.map ay)[k]?=some (ay l[k]):=by rw [aS,hx];rfl
  have dW:decide ((k:Int) < ((l.map ay).length:Int))=true:=by rw [hm];simpa using aj
  have cq:=mR (f:=ay) (Z:=Z) hx;rw [<-hR] at cq;have hex:=he _ (br hx);have hc:=Tv l[k] hex;exact zbV
 ·have dW:decide ((k:Int) < ((l.map ay).length:Int))=false:=by rw [hm];simpa using aj
  have nA:k=l.length:=by omega
  subst nA;rw [mP] at hR;subst hR;refine cm ?_;refine GW.wk zf0 ?_;exact zdv
theorem Ny (x:Src) (hg:x.globals.length<=1048576) (ha:x.arrays.length<=1048576) (hf:x.fns.length<=1048576) (Pk:∀ f∈x.fns,f.params.length<=1048576) (hn:x.nodes.length<=1048576) (zS:∀ n∈x.nodes,n.kids.length<=1048576):GF prog 8 [.agg (ar x)] [] (.agg (ar x)) []:=by
 have h0:=BW x.globals hg;have I:=Nw x.arrays ha;have M:=WA x.fns hf Pk;have h3:=QU x.nodes hn zS;refine ah func8 ntmps8 ?_;refine V [] h0 ?_;refine zci ?_;exact ed
end Go.Xg
