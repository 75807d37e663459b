/- Part 5 of proofs that are told in their last texts. -/
import Derived.Test.YtfdcdcleipmmdaaGreatDoorQ4
import Derived.IntWalk
import Derived.Laws.IdiomStrings
import Derived.Test.YtfdcdcleipmmdaaGreatDoorProg
import Derived.KernelRfl
import Derived.Test.YtfdcdcleipmmdaaGreatDoorQ1
import Derived.Test.YtfdcdcleipmmdaaGreatDoorQ2
import Derived.Deep.Slices
import Derived.Deep.Fields
import Derived.ChangeSame
import Derived.Lib.SmallJoins
import Derived.SliceStrings
import Derived.ChangeSlices
import Derived.Lib.LaidU8
import Derived.Shelf.Vars
import Derived.Test.YtfdcdcleipmmdaaGreatDoorQ3
import Derived.Laws.Bits128
import Derived.Lib.AppendStr
import Derived.Laws.OwnMore
open List (cons_append ext_getElem flatten_cons getElem?_eq_getElem getElem?_map getElem_mem length_append length_cons length_map length_nil map_map mem_cons_self sum_cons toList_toArray)
set_option linter.unusedVariables false
set_option linter.unusedSimpArgs false
set_option maxRecDepth 100000
namespace Go.Xg
open Go.RowKit Go.Xw
section
variable {P:Program} {m:Nat} {Q:eu} {fr:List GV} {Γ:List Ob} {ops:Array Oper} {rest:List Oper} {d:Option Tmp} {op:Op} {ty:TypeId} {pos:String} {af:Array Edge}
theorem GW.join {c y:Code} (K:List GV->List Ob->Prop) (I:GW P m c (ba (Ak m K) Q) fr Γ) (F:∀ fr Γ,K fr Γ->GW P m y Q fr Γ):GW P m c (ba (GW P m y Q) Q) fr Γ:=by
 refine I.mono fun e fr Γ hq=>?_
 cases e with
 | normal=>obtain ⟨cl,aS,hw,hk⟩:=hq;exact GW.wk hw (F _ _ hk)
 | _=>exact hq
theorem YG.ny {x y:Operand} {t e:TypeId} {k:Nat} [hT:nT P t e k] {rows:List (List GV)} {kk:IntKind} {n:Int} {i:Nat} {r:List GV} (hx:a6 fr x=.sl k rows) (hy:a6 fr y=.v (.int kk n)) (hr:rows[i]?=some r) (hi:n=(i:Int)):YG P (.indexAddr t x y) fr Γ (.box r 0):=by
 subst hi;exact YG.xl hx hy hr
def nf:List (List GV)->Bool
 | []=>true
 | r::rs=>n5 r&&nf rs
theorem C4 {rows:List (List GV)} (h:nf rows=true):n5 rows.flatten=true:=by
 induction rows with
 | nil=>rfl
 | cons r rs ih =>
  simp only [nf,aE] at h
  have ZP:∀ (a b:List GV),n5 a=true->n5 b=true->n5 (a++b)=true:=by
   intro a
   induction a with
   | nil=>intro b _ hb;exact hb
   | cons x a yU =>
    intro b ha hb;simp only [n5,aE] at ha;simp only [cons_append,n5,aE];exact ⟨ha.1,yU b ha.2 hb⟩
  rw [flatten_cons];exact ZP _ _ h.1 (ih h.2)
theorem GL.app {s x:Operand} {t e k iU:Nat} [hT:pz P t e k iU] {i n fz:Nat} {rows news:List (List GV)} (hx:a6 fr x=.sl k news) (hs:a6 fr s=.vec i n) (bJ:Γ[i]?=some (.vec e k fz rows)) (hn:rows.length=n) (I:nf news=true) (cj:news.isEmpty=false)
  (hb:n+news.length<=9223372036854775807/\(n+news.length) * iU<=140737488355328)
  (h:GL P m ops Q rest (bz fr d (.vec i (n+news.length))) (oset Γ i (.vec e k fz (rows++news)))) :
  GL P m ops Q (⟨d,.call ⟨.builtin .append,#[s,x],#[t,t]⟩,ty,pos,af,none⟩::rest) fr Γ:=fun B K β w l hm hI hF=>by
 subst hn
 have cj:news≠[]:=by intro h0;rw [h0] at cj;cases cj
 obtain ⟨h0,xs,o1,o2,o3,o4,o5,o6⟩:=hI.ob i _ bJ;have uE:=hF.ev s;rw [hs] at uE
 have rF:ev l s=h0:=by
  generalize hv:ev l s=v at uE
  cases uE with
  | vec _ _ a c hh =>
   obtain ⟨h',m',e1,e2,e3⟩:=hh;rw [o1] at e1;cases e1;exact e3 rfl
 have pL:=hF.ev x;rw [hx] at pL;generalize sH:ev l x=v at pL
 cases pL with
 | sl0 a c k=>exact absurd rfl cj
 | sl b o c _ _ hr _ =>
  have mf:gE k news:=fun r Oe=>by
   obtain ⟨j,hj⟩:=List.mem_iff_getElem?.1 Oe;refine ⟨(hr j r hj).1,fun g hg=>?_⟩;obtain ⟨q,hq⟩:=List.mem_iff_getElem?.1 hg;exact (hI.fz _ _ _ ((hr j r hj).2 q g hq)).1
  have FW:∀ (rows:List (List GV)) (o:Nat),(∀ (j:Nat) r,rows[j]?=some r->r.length=k/\∀ (q:Nat) g,r[q]?=some g->K b (o+j * k+q)=some g)->∀ (q:Nat) g,rows.flatten[q]?=some g->K b (o+q)=some g:=by
   intro rows
   induction rows with
   | nil=>intro o _ q g hg;simp at hg
   | cons r rows ih =>
    intro o h q g hg;rw [flatten_cons] at hg;have hl:=(h 0 r rfl).1
    by_cases hq:q < r.length
    ·rw [kl hq] at hg;have:=(h 0 r rfl).2 q g hg;simpa using this
    ·rw [nk (by omega),hl] at hg
     have:=ih (o+k) (fun j r' hj=>by
      have:=h (j+1) r' (by simpa using hj);refine ⟨this.1,fun q g hg=>?_⟩;have:=this.2 q g hg
      rw [show o+(j+1) * k+q=o+k+j * k+q by rw [Nat.succ_mul];omega] at this;exact this) (q - k) g hg
     rw [show o+k+(q - k)=o+q by omega] at this;exact this
  obtain ⟨us,kq,kG⟩:=xb (K:=K) (β:=β) (H:=w.heap) (b:=b) news.flatten o (fun j g hj=>by
   obtain ⟨hp,u,hu,gJ⟩:=hI.fz _ _ _ (FW news o (fun j r hj=>hr j r hj) j g hj)
   exact ⟨u,hu,gJ.pc hp⟩)
  have Oh:us.length=news.length * k:=by
   rw [kq.1,List.length_flatten]
   have:∀ (rows:List (List GV)),gE k rows->(rows.map List.length).sum=rows.length * k:=by
    intro rows
    induction rows with
    | nil=>intro _;simp
    | cons r rows ih =>
     intro hk;rw [List.map_cons,sum_cons,ih (fun r hr=>hk r (cV _ hr)),(hk r (mem_cons_self)).1,length_cons,Nat.succ_mul];omega
   exact this news mf
  refine WL.app (base:=0) (v:=h0) (n:=rows.length) (m:=news.length) (xs:=xs) (news:=us) rF o2 sH Oh (fun j u hj=>by rw [fP];exact kG j u hj) (kq.nc (C4 I)) hb.1 hb.2 (aX _) ?_;intro v' w' how gU pb uB
  obtain ⟨K',hK,rG,bA⟩:=hI.grow bJ o1 ⟨o2,o3⟩ (news:=news) (ns:=us) how gU pb kq mf cj (fun b bo o v ho hv=>by
   rcases uB with h7 | h7
   ·exact h7.c hv (fun h=>h)
   ·have jg:o < xs.length:=by rw [o2.1];exact xS ho (ru k o6)
    obtain ⟨b2,c2,qz,_,_,kB⟩:=o2.cells.2 (by intro h0;rw [h0] at jg;simp at jg)
    have fv:b2=b:=by rw [qz] at bo;cases bo;rfl
    subst fv;have Fb:=kB o xs[o] (by simp [jg]);rw [fP,hv] at Fb;cases Fb;obtain ⟨b3,c3,N2,_,_,NX⟩:=how.cells.2 (by intro h0;have:xs=[]:=(List.append_eq_nil_iff.1 h0).1;rw [this] at jg;simp at jg)
    have yE:b3=b2:=by rw [N2,bo] at h7;cases h7;rfl
    subst yE
    rw [<-fP];exact NX o _ (by rw [kl jg];simp [jg]))
  rw [<-bD] at bA;refine h B K' _ w' _ hm bA ((hF.mono hK rG).put d ?_);obtain ⟨a,c,rfl⟩:=how.shape;exact .vec i _ a c ⟨_,_,bq,by simp,fun _=>by simp⟩
theorem Wk.L7 {i o:Nat} {T:TypeId} {cs:List GV} (E k:Nat) (hi:Γ[i]?=some (.box T cs)) (ho:cs[o]?=some (.v (.slice none 0 0))):Wk m fr Γ fr (oset Γ i (.box T (bH cs o (.vec Γ.length 0)))++[.vec E k 0 []]):=fun B K β w l hm hI hF=>by
 have bX:β Γ.length=.no:=hI.out _ (aH _);have ar:i < Γ.length:=(bh hi).1;have bA:=hI.Ga (w':=w) (E:=E) (k:=k) (x:=.slice none 0 0) (xs:=[]) (rows:=[]) (Ext.refl w) (iH.nil w 0 E k) (fun b hb=>by cases hb) bg.nil (fun r hr=>by cases hr);have hle:dJ β (fC β Γ.length (.gr (.slice none 0 0) ([]:List (List GV)).length)):=ic (by rw [bX];trivial);refine ⟨K,_,⟨bA.ext,bA.kle,bA.ble,bA.loc,bA.fz,fun j x hj=>?_,fun j hj=>bA.out j (by simp [bD] at hj |-;exact hj),bA.dis,bA.own,bA.kn,bA.tab⟩,hF.mono (c6.refl K) hle⟩
 by_cases pd:j=i
 ·subst pd;rw [kl (by simp [bD];exact ar),bD,iz] at hj;simp [ar] at hj;subst hj;obtain ⟨b,vs,I,F,h3,h4⟩:=bA.ob j (.box T cs) (by rw [kl ar];exact hi);refine ⟨b,vs,I,F,?_,h4⟩
  have gen:∀ (vs:List Value) (cs:List GV) (o:Nat),bg K (fC β Γ.length (.gr (.slice none 0 0) ([]:List (List GV)).length)) vs cs->cs[o]?=some (.v (.slice none 0 0))->bg K (fC β Γ.length (.gr (.slice none 0 0) ([]:List (List GV)).length)) vs (bH cs o (.vec Γ.length 0)):=by
   intro vs
   induction vs with
   | nil=>intro cs o h ho;have:cs=[]:=gQ h.1.symm;subst this;simp at ho
   | cons v vs ih =>
    intro cs o h ho
    cases cs with
    | nil=>simp at ho
    | cons c cs =>
     obtain ⟨a1,a2⟩:=h.oJ
     cases o with
     | zero =>
      cases ho;have hv:=Rel.gy a1;subst hv;exact .cons (.vec _ 0 none 0 ⟨_,_,bq,aH _,fun _=>rfl⟩) a2
     | succ o=>exact .cons a1 (ih cs o a2 (by simpa using ho))
  exact gen vs cs o h3 ho
 ·refine bA.ob j x ?_
  by_cases pH:j < Γ.length
  ·rw [kl (by simp [bD];exact pH),bD,iz,ab (fun e=>pd e.symm)] at hj;rw [kl pH];exact hj
  ·rw [nk (by simp [bD];omega)] at hj;rw [nk (by omega)];simpa [bD] using hj
theorem Wk.zY {i o j n E k fz:Nat} {T:TypeId} {cs:List GV} {rows:List (List GV)} (hi:Γ[i]?=some (.box T cs)) (ho:cs[o]?=some (.vec j n)) (fx:Nat.beq i j=false) (hj:Γ[j]?=some (.vec E k fz rows)) (hn:rows.length=n):Wk m fr Γ fr (oset (oset Γ j (.vec E k n rows)) i (.box T (bH cs o (.sl k rows)))):=fun B K β w l hm hI hF=>by
 subst hn
 have cj:i≠j:=by intro e;subst e;simp at fx
 obtain ⟨h0,xs,o1,o2,o3,o4,o5,o6⟩:=hI.ob j _ hj;obtain ⟨K',hK,yK,bA⟩:=hI.ki hj;rw [<-bD] at bA;refine ⟨K',β,⟨bA.ext,bA.kle,bA.ble,bA.loc,bA.fz,fun q x hq=>?_,fun q hq=>bA.out q (by simpa [bD] using hq),bA.dis,bA.own,bA.kn,bA.tab⟩,hF.mono hK (dJ.refl β)⟩
 by_cases hqi:q=i
 ·subst hqi;have ar:q < Γ.length:=(bh hi).1;rw [bD,iz] at hq;simp [bD,ar] at hq;subst hq;obtain ⟨b,vs,I,F,h3,h4⟩:=bA.ob q (.box T cs) (by rw [bD,iz,ab (fun e=>cj e.symm)];exact hi);refine ⟨b,vs,I,F,?_,h4⟩
  have gen:∀ (vs:List Value) (cs:List GV) (o:Nat),bg K' β vs cs->cs[o]?=some (.vec j rows.length)->bg K' β vs (bH cs o (.sl k rows)):=by
   intro vs
   induction vs with
   | nil=>intro cs o h ho;have:cs=[]:=gQ h.1.symm;subst this;simp at ho
   | cons v vs ih =>
    intro cs o h ho
    cases cs with
    | nil=>simp at ho
    | cons c cs =>
     obtain ⟨a1,a2⟩:=h.oJ
     cases o with
     | zero =>
      cases ho;refine .cons ?_ a2
      cases a1 with
      | vec _ _ a c hh =>
       obtain ⟨h',m',e1,e2,e3⟩:=hh;rw [o1] at e1;cases e1;have e4:=e3 rfl
       rcases o2.2 with ⟨e5,e6⟩ | ⟨g,cap,cu,e5,_,_,pI,_⟩
       ·have:rows=[]:=gQ e6;subst this;exact .sl0 _ _ _
       ·rw [e5] at e4;cases e4;refine .sl g 0 _ k rows (fun j r hr=>⟨(o4 r (bm hr)).1,fun q g' la=>?_⟩) pI;rw [fk];exact yK _ g o1 (by rw [e5];rfl) _ g' (wJ o4 hr la)
     | succ o=>exact .cons a1 (ih cs o a2 (by simpa using ho))
  exact gen vs cs o h3 ho
 ·rw [bD,iz,ab (fun e=>hqi e.symm)] at hq;exact bA.ob q x hq
end
class Lc (P:Program) (t:TypeId) (k:outParam IntKind):Prop where
 und:P.underlying t=some (.int k)
class My (P:Program) (t:TypeId):Prop where
 und:∃ e,P.underlying t=some (.slice e)/\P.underlying e=some (.int .u8)
theorem My.mk' {P:Program} {t e:TypeId} (h:P.underlying t=some (.slice e)) (k:P.underlying e=some (.int .u8)):My P t:=⟨e,h,k⟩
section
variable {P:Program} {m:Nat} {Q:eu} {fr:List GV} {Γ:List Ob} {ops:Array Oper} {rest:List Oper} {d:Option Tmp} {op:Op} {ty:TypeId} {pos:String} {af:Array Edge}
theorem YG.Ij {x y:Operand} {t t':TypeId} {a b:Int} (hx:a6 fr x=.v (.int .u8 a)) (hy:a6 fr y=.v (.int .u8 b)) (hb:0<=a - b/\a - b<=255):YG P (.binOp .sub t x y t') fr Γ (.v (.int .u8 (a - b))) :=
 YG.v2 hx hy fun l w h k d ty pos af=>by simp [execOp,eqGuard,h,k,binOp,Op.intArith,IntWalk.u8_in _ hb]
theorem YG.quo {x y:Operand} {t t':TypeId} {a b:Int} (hx:a6 fr x=.v (ii a)) (hy:a6 fr y=.v (ii b)) (hb:0<=a/\a<=9223372036854775807/\1<=b):YG P (.binOp .quo t x y t') fr Γ (.v (ii (a / b))) :=
 YG.v2 hx hy fun l w h k d ty pos af=>by
  have cj:b≠0:=by omega
  simp [execOp,eqGuard,h,k,binOp,Op.intDiv,cj,IntWalk.i64_quo a b hb]
theorem YG.rem {x y:Operand} {t t':TypeId} {a b:Int} (hx:a6 fr x=.v (ii a)) (hy:a6 fr y=.v (ii b)) (hb:0<=a/\1<=b):YG P (.binOp .rem t x y t') fr Γ (.v (ii (a % b))) :=
 YG.v2 hx hy fun l w h k d ty pos af=>by
  have cj:b≠0:=by omega
  simp [execOp,eqGuard,h,k,binOp,Op.intDiv,cj,IntWalk.rem_in a b hb.1]
theorem YG.Cr {x:Operand} {s t:TypeId} {k k':IntKind} {a:Int} [hS:Lc P s k'] [hT:Lc P t k] (hx:a6 fr x=.v (.int k' a)) (hw:k.wrap a=a):YG P (.convert s t x) fr Γ (.v (.int k a)) :=
 YG.v1 hx fun l w h d ty pos af=>by simp [execOp,h,convert,run_underlying hS.und,run_underlying hT.und,Conv.intToInt,hw]
theorem YG.str {x:Operand} {s t:TypeId} {l:ah} {rows:List (List GV)} [hS:My P s] [hT:qJ P t] (hx:a6 fr x=.sl 1 rows) (hr:rows=l.map fun c=>[.v (.int .u8 (c.toNat:Int))]):YG P (.convert s t x) fr Γ (.v (sv l)):=fun B K β w fl hI hF=>by
 subst hr;obtain ⟨e,I,F⟩:=hS.und;have h:=hF.ev x;rw [hx] at h;generalize hv:ev fl x=v at h;refine ⟨_,fun d ty pos af=>?_,.v _⟩
 have key:(convert s t v).run P w=.ok (sv l) w:=by
  generalize mf:(l.map fun c=>[GV.v (.int .u8 (c.toNat:Int))])=rows at h
  cases h with
  | sl0 a c =>
   have:l=[]:=by cases l with | nil=>rfl | cons x l=>simp at mf
   subst this
   cases a with
   | none=>rw [run_convert_bytes_string w s t e none 0 c I F hT.und];simp [Conv.bytesToString];rfl
   | some a=>exact run_convert_bytes_back w s t e a c [] I F hT.und (fun j hj=>by simp at hj)
  | sl b o c _ _ hc _ =>
   have hl:rows.length=l.length:=by rw [<-mf];simp
   rw [hl];refine run_convert_bytes_back w s t e ⟨b,o,none⟩ c l I F hT.und (fun j hj=>?_)
   have bG:rows[j]?=some [GV.v (.int .u8 (l[j].toNat:Int))]:=by rw [<-mf];simp [hj]
   obtain ⟨_,u,hu,gJ⟩:=hI.fz _ _ _ ((hc j _ bG).2 0 _ rfl);rw [qK,fP];have:=Rel.gy gJ;subst this;simpa using hu
 simp [execOp,hv,key]
end
structure Hid (B:Prop):Prop where
 h:B
structure tY (aR:List Nat) (C:Prop):Prop where
 h:C
section
variable {P:Program} {m:Nat} {ops:Array Oper} {Q:eu} {rest:List Oper} {fr:List GV} {Γ:List Ob} {d:Option Tmp} {ty:TypeId} {pos:String} {af:Array Edge}
theorem GL.vX {f:FuncId} [hf:aI P f] {aR:List Nat} {args:List Operand} {qF:Array TypeId} {gs:List GV} {iN sc:List Ob} {g:GV} (hc:tY aR (GF P f gs iN g sc)) (ha:j0 (args.map (a6 fr)) (ng (b7 aR Γ.length) gs)) (eT:kW aR Γ.length=true)
  (bJ:seen (b7 aR Γ.length) Γ aR iN) (hl:Nat.ble aR.length sc.length=true) (h:GL P m ops Q rest (bz fr d (eN (b7 aR Γ.length) g)) (gF Γ aR (sc.map (Ob.eN (b7 aR Γ.length))))) :
  GL P m ops Q (⟨d,.call ⟨.value (.func f),args.toArray,qF⟩,ty,pos,af,none⟩::rest) fr Γ:=GL.Sc aR hc.h ha eT bJ hl h
theorem GL.Vd {f:FuncId} [hf:aI P f] {aR:List Nat} {args:List Operand} {qF:Array TypeId} {gs:List GV} {iN:List Ob} {R:GV->List Ob->Prop} (hc:tY aR (GC P f gs iN R)) (ha:j0 (args.map (a6 fr)) (ng (b7 aR Γ.length) gs)) (eT:kW aR Γ.length=true)
  (bJ:seen (b7 aR Γ.length) Γ aR iN) (h:∀ g aS,R g aS->aR.length<=aS.length/\GL P m ops Q rest (bz fr d (eN (b7 aR Γ.length) g)) (gF Γ aR (aS.map (Ob.eN (b7 aR Γ.length))))) :
  GL P m ops Q (⟨d,.call ⟨.value (.func f),args.toArray,qF⟩,ty,pos,af,none⟩::rest) fr Γ:=GL.Sb aR hc.h ha eT bJ h
theorem GL.M5 {f:FuncId} [hf:aI P f] {aR:List Nat} {x:Operand} {first cap:List GV} {args:List Operand} {qF:Array TypeId} {gs:List GV} {iN:List Ob} {R:GV->List Ob->Prop} (hc:tY aR (GC P f gs iN R)) (hx:a6 fr x=.fn (.func f) first cap) (ha:first++args.map (a6 fr)++cap=ng (b7 aR Γ.length) gs) (eT:kW aR Γ.length=true)
  (bJ:seen (b7 aR Γ.length) Γ aR iN) (h:∀ g aS,R g aS->aR.length<=aS.length/\GL P m ops Q rest (bz fr d (eN (b7 aR Γ.length) g)) (gF Γ aR (aS.map (Ob.eN (b7 aR Γ.length))))) :
  GL P m ops Q (⟨d,.call ⟨.value x,args.toArray,qF⟩,ty,pos,af,none⟩::rest) fr Γ:=GL.sf aR hc.h hx ha eT bJ h
theorem GL.M4 {f:FuncId} [hf:aI P f] {aR:List Nat} {x:Operand} {args:List Operand} {qF:Array TypeId} {gs:List GV} {iN:List Ob} {R:GV->List Ob->Prop} (hc:tY aR (GC P f gs iN R)) (hx:a6 fr x=.v (.func (.func f) #[] #[])) (ha:args.map (a6 fr)=ng (b7 aR Γ.length) gs) (eT:kW aR Γ.length=true)
  (bJ:seen (b7 aR Γ.length) Γ aR iN) (h:∀ g aS,R g aS->aR.length<=aS.length/\GL P m ops Q rest (bz fr d (eN (b7 aR Γ.length) g)) (gF Γ aR (aS.map (Ob.eN (b7 aR Γ.length))))) :
  GL P m ops Q (⟨d,.call ⟨.value x,args.toArray,qF⟩,ty,pos,af,none⟩::rest) fr Γ:=GL.XE aR hc.h hx ha eT bJ h
end
theorem di {A : Prop} (s : A := by first | omega | assumption | (simp only [List.length_append,List.length_cons,List.length_nil];omega)) : A := s
theorem bf {A : Prop} (s : A := by first | rfl | assumption) : A := s
theorem tH {A : Prop} (s : A := by apply K.len;first | exact YG.X8 rfl | exact YG.QZ rfl | exact YG.aau rfl | exact YG.aav rfl | exact YG.lenA rfl) : A := s
theorem dH {A : Prop} (s : A := by first | exact .inr rfl | exact .inl rfl) : A := s
theorem wV {A : Prop} (s : A := by apply K.ld;first | exact YG.Zr rfl rfl bf | exact YG.Wy rfl rfl rfl rfl | exact YG.ldV rfl rfl bf bf bf | exact YG.Zq rfl rfl bf bf bf) : A := s
theorem PG {A : Prop} (s : A := by apply K.ld;first | exact YG.Zr rfl rfl bf | exact YG.Zp rfl bf | exact YG.Wy rfl rfl rfl rfl | exact YG.Wx rfl rfl rfl | exact YG.ldV rfl rfl bf bf bf | exact YG.Zq rfl rfl bf bf bf) : A := s
theorem rq {A : Prop} (s : A := by apply K.nck;first | exact YG.aaz rfl | exact YG.aay rfl) : A := s
theorem sQ {A : Prop} (s : A := by apply K.pick;first | exact YG.Td rfl bf | exact YG.Tc rfl bf) : A := s
theorem cM {A : Prop} (s : A := by assumption) : A := s
theorem eP {A : Prop} (s : A := by omega) : A := s
theorem Dj {A : Prop} (s : A := by apply K.bin;first | exact YG.go rfl | exact YG.yh rfl rfl eP | exact YG.Cu rfl rfl | exact YG.CZ rfl rfl | exact YG.Gs rfl rfl | exact YG.HL rfl rfl | exact YG.cat rfl rfl eP | exact YG.cat rfl rfl (by simp only [List.length_append,List.length_cons,List.length_nil];omega) | exact YG.dP rfl rfl eP | exact YG.add rfl rfl eP | exact YG.sub rfl rfl eP | exact YG.mul rfl rfl eP | exact YG.Ij rfl rfl eP | exact YG.quo rfl rfl eP | exact YG.rem rfl rfl eP | exact YG.xv rfl rfl) : A := s
theorem Dk {A : Prop} (s : A := by apply K.Pk;first | exact YG.Ii rfl rfl rfl eP | exact YG.Ih rfl rfl eP | exact YG.Ig rfl rfl eP | exact YG.zi 1 rfl rfl rfl bf) : A := s
theorem To {A : Prop} (s : A := by apply K.idx;first | exact YG.idxV rfl rfl rfl bf eP | exact YG.eB 0 rfl rfl rfl di | exact YG.eB 1 rfl rfl rfl di | exact YG.eB 2 rfl rfl rfl di | exact YG.eB 3 rfl rfl rfl di | exact YG.eB 4 rfl rfl rfl di | exact YG.eB 5 rfl rfl rfl di | exact YG.eB 6 rfl rfl rfl di) : A := s
theorem Tp {A : Prop} (s : A := by apply K.idx;first | exact YG.xl rfl rfl cM | exact YG.ny rfl rfl cM rfl | exact YG.ny rfl rfl cM eP | exact YG.yT rfl rfl eP | exact YG.idxV rfl rfl rfl bf eP | exact YG.eB 0 rfl rfl rfl di | exact YG.eB 1 rfl rfl rfl di | exact YG.eB 2 rfl rfl rfl di | exact YG.eB 3 rfl rfl rfl di | exact YG.eB 4 rfl rfl rfl di | exact YG.eB 5 rfl rfl rfl di | exact YG.eB 6 rfl rfl rfl di) : A := s
theorem zp {A : Prop} (s : A := by first | rfl | exact IntWalk.i64_in _ eP | exact IntWalk.u8_in _ eP | assumption) : A := s
theorem Ix {A : Prop} (s : A := by apply K.idx;first | exact YG.xl rfl rfl cM | exact YG.ny rfl rfl cM rfl | exact YG.ny rfl rfl cM eP | exact YG.yT rfl rfl eP) : A := s
theorem sR {A : Prop} (s : A := by apply K.DV;first | exact YG.mkfn0 | exact YG.DV) : A := s
theorem u5 {A : Prop} (s : A := by apply K.ld;first | exact YG.Zp rfl bf | exact YG.Wx rfl rfl rfl) : A := s
theorem PI {A : Prop} (s : A := by apply K.Vs;first | exact YG.Vv rfl | exact YG.Vt rfl | exact YG.fldV rfl rfl bf | exact YG.Vu rfl rfl bf) : A := s
theorem Tn {A : Prop} (s : A := by first | exact YG.mv | exact YG.xT | exact Dj | exact PI | exact PG | exact tH | exact rq | exact sQ | exact Tp | exact YG.ext rfl rfl | exact YG.go rfl | exact Dk | exact YG.uH rfl rfl cM | exact YG.idxSC rfl rfl cM rfl | exact sR | exact YG.build rfl | exact YG.neg rfl eP | exact YG.uk rfl rfl | exact YG.Cr rfl zp | exact YG.str rfl bf) : A := s
theorem u6 {A : Prop} (s : A := by apply K.Vs;first | exact YG.Vv rfl | exact YG.Vt rfl) : A := s
theorem wW {A : Prop} (s : A := by apply K.Vs;first | exact YG.fldV rfl rfl bf | exact YG.Vu rfl rfl bf) : A := s
theorem Tm {A : Prop} (s : A := by first | exact wV | exact To | exact wW | exact YG.wN 1 rfl rfl bf bf | exact YG.mv | exact YG.xT | exact Dj | exact u6 | exact u5 | exact tH | exact rq | exact sQ | exact Ix | exact YG.ext rfl rfl | exact YG.go rfl | exact Dk | exact YG.uH rfl rfl cM | exact YG.idxSC rfl rfl cM rfl | exact sR | exact YG.build rfl | exact YG.neg rfl eP | exact YG.uk rfl rfl | exact YG.Cr rfl zp | exact YG.str rfl bf) : A := s
theorem PH {A : Prop} (s : A := by first | exact wV | exact To | exact wW | exact YG.wN 1 rfl rfl bf bf) : A := s
theorem jH {A:Prop} (s:A:=by repeat (first | exact jJ.n | (apply jJ.w;(· decide +kernel)) | (apply jJ.y;(· first | (apply YQ.t;(· exact rfl);(· exact rfl);(· exact Tm)) | (apply YQ.t;(· exact rfl);(· apply DJ;(· exact rfl);(· first | exact rfl | assumption));(· exact Tm)) | (apply YQ.f;(· exact rfl);(· apply G2;(· exact rfl);(· first | exact rfl | assumption))))))):A:=s
theorem dR {A:Prop} (s:A:=by (try simp only [bz,bH,a6,dj,List.length_cons,List.length_nil,Nat.reduceAdd,eN,ng,b7]);rfl):A:=s
theorem fD {A:Prop} (s:A:=by (try simp only [List.cons_append,List.nil_append,oset,oT,bH,dj,a6,gF,List.map_cons,List.map_nil,Ob.eN,eN,ng,b7]);rfl):A:=s
theorem z8 {A:Prop} (s:A:=by simp only [bz,bH,a6,dj];rfl):A:=s
theorem xQ {A:Prop} (s:A:=by first | exact j0.refl | (repeat (first | exact j0.nil | exact kY.refl | exact kY.nil | exact kY.U | exact kY.fn0 | refine j0.cons ?_ ?_ | refine kY.agg ?_))):A:=s
theorem nE {A:Prop} (s:A:=by first | exact trivial | exact ⟨rfl,trivial⟩ | exact ⟨rfl,rfl,trivial⟩ | exact ⟨rfl,rfl,rfl,trivial⟩ | exact ⟨rfl,rfl,rfl,rfl,rfl,trivial⟩):A:=s
theorem G {A B:Prop} (h:B) (s:Hid B->A:=by intro hQ;(repeat (first | ((first | (apply GL.q;(· exact Tn)) | refine GL.nil ?_ | refine be ?_ | refine GW.seq ?_ | refine GW.region ?_ | refine GW.skip ?_ | refine jf ?_ | refine GW.block ?_ | (apply GL.gt;(· exact rfl);(· first | exact rfl | assumption)) | (apply GL.gf;(· exact rfl);(· first | exact rfl | assumption)) | (apply GL.gu;(· exact rfl)) | (apply R0;(· exact rfl);(· first | exact rfl | assumption)) | (apply RZ;(· exact rfl);(· first | exact rfl | assumption)));try refine GN z8 ?_) | ((first | (apply GL.alloc;(· simp only [kR,Value.cells,List.map_cons,List.map_nil];rfl)) | (apply GL.box;(· exact rfl)) | (apply GL.st;(· exact rfl);(· exact rfl);(· exact rfl);(· exact rfl);(· exact rfl);(· exact rfl)));refine vb dR fD ?_)));exact hQ.1):A:=s ⟨h⟩
theorem au {A B:Prop} (h:B) (s:Hid B->A:=by intro hQ;(repeat ((first | (apply OPm;(· exact rfl)) | (apply OPa;(· exact rfl)) | (apply OP;(· exact rfl);(· intro Γ;(first | exact Dj | exact u6 | exact u5 | exact tH | exact rq | exact Ix | exact YG.ext rfl rfl | exact YG.go rfl | exact Dk | exact YG.uH rfl rfl cM | exact YG.idxSC rfl rfl cM rfl | exact sR | exact YG.build rfl | exact YG.neg rfl eP | exact YG.uk rfl rfl | exact YG.Cr rfl zp | exact YG.str rfl bf))) | (apply ZB;(· exact rfl);(· exact rfl);(· first | exact rfl | assumption)) | (apply ZA;(· exact rfl);(· exact rfl);(· first | exact rfl | assumption)) | (apply ZC;(· exact rfl);(· exact rfl);(· first | exact rfl | assumption)) | (apply OQ;(· exact rfl);(· exact PH)) | (apply YH;(· exact rfl);(· exact rfl);(· first | exact rfl | assumption);(· intro Γ;(first | exact YG.mv | exact YG.xT | exact Dj | exact u6 | exact u5 | exact tH | exact rq | exact sQ | exact Ix | exact YG.ext rfl rfl | exact YG.go rfl | exact Dk | exact YG.uH rfl rfl cM | exact YG.idxSC rfl rfl cM rfl | exact sR | exact YG.build rfl | exact YG.neg rfl eP | exact YG.uk rfl rfl | exact YG.Cr rfl zp | exact YG.str rfl bf))) | (apply OQt;(· exact rfl);(· exact rfl);(· first | exact rfl | assumption);(· exact PH)) | (apply ONf;(· exact rfl);(· exact rfl);(· first | exact rfl | assumption)) | (apply ONu;(· exact rfl);(· exact rfl)) | (apply OAf;(· exact rfl);(· exact rfl);(· first | exact rfl | assumption);(· exact jH)) | (apply OAu;(· exact rfl);(· exact rfl);(· exact jH)) | refine GO.nil ?_ | (apply OA;(· exact rfl);(· exact rfl);apply GL.alloc;(· simp only [kR,Value.cells,List.map_cons,List.map_nil];rfl);refine GL.nil (be (ft.mk jH ?_));refine pg dR fD ?_) | (apply OA;(· exact rfl);(· exact rfl);apply GL.st;(· exact rfl);(· exact rfl);(· exact rfl);(· exact rfl);(· exact rfl);(· exact rfl);refine GL.nil (be (ft.mk jH ?_));refine pg dR fD ?_) | (apply OA;(· exact rfl);(· exact rfl);apply GL.box;(· exact rfl);refine GL.nil (be (ft.mk jH ?_));refine pg dR fD ?_));try refine YF z8 ?_));exact hQ.1):A:=s ⟨h⟩
theorem jv {A B:Prop} (h:B) (s:Hid B->A:=by intro hQ;(repeat (first | ((first | (apply GL.q;(· (first | exact YG.mv | exact YG.xT | exact Dj | exact PI | exact PG | exact tH | exact rq | exact sQ | exact Tp | exact YG.ext rfl rfl | exact YG.go rfl | exact Dk | exact YG.uH rfl rfl cM | exact YG.idxSC rfl rfl cM rfl | fail | exact YG.build rfl | exact YG.neg rfl eP | exact YG.uk rfl rfl | exact YG.Cr rfl zp | exact YG.str rfl bf))) | refine GL.nil ?_ | refine be ?_ | refine GW.seq ?_ | refine GW.region ?_ | refine GW.skip ?_ | refine jf ?_ | refine GW.block ?_ | (apply GL.gt;(· exact rfl);(· first | exact rfl | assumption)) | (apply GL.gf;(· exact rfl);(· first | exact rfl | assumption)) | (apply GL.gu;(· exact rfl)) | (apply R0;(· exact rfl);(· first | exact rfl | assumption)) | (apply RZ;(· exact rfl);(· first | exact rfl | assumption)));try refine GN z8 ?_) | ((first | (apply GL.alloc;(· simp only [kR,Value.cells,List.map_cons,List.map_nil];rfl)) | (apply GL.box;(· exact rfl)) | (apply GL.st;(· exact rfl);(· exact rfl);(· exact rfl);(· exact rfl);(· exact rfl);(· exact rfl)));refine vb dR fD ?_)));exact hQ.1):A:=s ⟨h⟩
theorem KX {A B:Prop} (h:B) (s:Hid B->A:=by intro hQ;(repeat (first | ((first | (apply GL.q;(· exact Tn)) | refine GL.nil ?_ | refine be ?_ | refine GW.seq ?_ | refine GW.region ?_ | refine GW.skip ?_ | refine jf ?_ | (apply GL.gt;(· exact rfl);(· first | exact rfl | assumption)) | (apply GL.gf;(· exact rfl);(· first | exact rfl | assumption)) | (apply GL.gu;(· exact rfl)) | (apply R0;(· exact rfl);(· first | exact rfl | assumption)) | (apply RZ;(· exact rfl);(· first | exact rfl | assumption)));try refine GN z8 ?_) | ((first | (apply GL.alloc;(· simp only [kR,Value.cells,List.map_cons,List.map_nil];rfl)) | (apply GL.box;(· exact rfl)) | (apply GL.st;(· exact rfl);(· exact rfl);(· exact rfl);(· exact rfl);(· exact rfl);(· exact rfl)));refine vb dR fD ?_)));exact hQ.1):A:=s ⟨h⟩
theorem eh {A B:Prop} (h:B) (s:Hid B->A:=by intro hQ;(try refine GN z8 ?_);exact hQ.1):A:=s ⟨h⟩
theorem Tl {A B:Prop} (h:B) (s:Hid B->A:=by intro hQ;(try refine YF z8 ?_);exact hQ.1):A:=s ⟨h⟩
theorem cm {A B:Prop} (h:B) (s:Hid B->A:=by intro hQ;(refine vb dR fD ?_);exact hQ.1):A:=s ⟨h⟩
theorem PF {A B:Prop} (h:B) (s:Hid B->A:=by intro hQ;(refine pg dR fD ?_);exact hQ.1):A:=s ⟨h⟩
theorem jQ {A B:Prop} (h:B) (s:Hid B->A:=by intro hQ;((repeat (first | refine GW.exit ?_ | refine G5 ?_ | refine JW ?_ | refine TY rfl ?_ | refine jf ?_ | refine be ?_)));exact hQ.1):A:=s ⟨h⟩
theorem bV {A B:Prop} (h:B) (s:Hid B->A:=by intro hQ;((repeat (first | refine GW.ret ?_ | refine nu ?_ | refine nt ?_ | refine be ?_ | refine jf ?_));refine pk rfl dH rfl (Nat.le_refl _) rfl rfl ?_);exact hQ.1):A:=s ⟨h⟩
theorem cZ {A B:Prop} (h:B) (s:Hid B->A:=by intro hQ;((repeat (first | refine GW.ret ?_ | refine nu ?_ | refine nt ?_ | refine be ?_ | refine jf ?_));refine Vz rfl dH (Nat.le_refl _) rfl ?_);exact hQ.1):A:=s ⟨h⟩
theorem Aa {A B:Prop} (h:B) (s:Hid B->A:=by intro hQ;((repeat (first | refine GW.ret ?_ | refine nu ?_ | refine nt ?_ | refine be ?_ | refine jf ?_));refine VA rfl dH rfl rfl (Nat.le_refl _) rfl rfl ?_);exact hQ.1):A:=s ⟨h⟩
theorem KU {A B:Prop} (h:B) (s:Hid B->A:=by intro hQ;((repeat (first | refine GW.ret ?_ | refine nu ?_ | refine nt ?_ | refine be ?_ | refine jf ?_));refine VB rfl dH rfl rfl rfl (Nat.le_refl _) rfl rfl ?_);exact hQ.1):A:=s ⟨h⟩
theorem r7 {A B:Prop} (h:B) (s:Hid B->A:=by intro hQ;((repeat (first | refine GW.ret ?_ | refine nu ?_ | refine nt ?_ | refine be ?_ | refine jf ?_));refine Cw ?_;refine VB rfl dH rfl rfl rfl (Nat.le_refl _) rfl rfl ?_);exact hQ.1):A:=s ⟨h⟩
theorem Iv {A B:Prop} (h:B) (s:Hid B->A:=by intro hQ;((repeat (first | refine GW.ret ?_ | refine nu ?_ | refine nt ?_ | refine be ?_ | refine jf ?_));refine Cw ?_;refine VA rfl dH rfl rfl (Nat.le_refl _) rfl rfl ?_);exact hQ.1):A:=s ⟨h⟩
theorem r8 {A B:Prop} (h:B) (s:Hid B->A:=by intro hQ;((repeat (first | refine GW.ret ?_ | refine nu ?_ | refine nt ?_ | refine be ?_ | refine jf ?_));refine Cw ?_;refine VC rfl dH rfl rfl rfl (Nat.le_refl _) rfl rfl ?_);exact hQ.1):A:=s ⟨h⟩
theorem qo {A B:Prop} (h:B) (s:Hid B->A:=by intro hQ;((repeat (first | refine GW.ret ?_ | refine nu ?_ | refine nt ?_ | refine be ?_ | refine jf ?_));refine XO rfl dH rfl rfl rfl rfl (Nat.le_refl _) rfl rfl ?_);exact hQ.1):A:=s ⟨h⟩
theorem mP {A B:Prop} (h:B) (s:Hid B->A:=by intro hQ;((repeat (first | refine GW.ret ?_ | refine nu ?_ | refine nt ?_ | refine be ?_ | refine jf ?_));refine NO rfl dH rfl rfl rfl rfl rfl (Nat.le_refl _) rfl rfl ?_);exact hQ.1):A:=s ⟨h⟩
theorem Di {A B:Prop} (h:B) (s:Hid B->A:=by intro hQ;((repeat (first | refine GW.ret ?_ | refine nu ?_ | refine nt ?_ | refine be ?_ | refine jf ?_));refine Cw ?_;refine NO rfl dH rfl rfl rfl rfl rfl (Nat.le_refl _) rfl rfl ?_);exact hQ.1):A:=s ⟨h⟩
theorem KV {A B:Prop} (h:B) (s:Hid B->A:=by intro hQ;((repeat (first | refine GW.ret ?_ | refine nu ?_ | refine nt ?_ | refine be ?_ | refine jf ?_));refine VC rfl dH rfl rfl rfl (Nat.le_refl _) rfl rfl ?_);exact hQ.1):A:=s ⟨h⟩
theorem b6 {A B:Prop} (h:B) (s:Hid B->A:=by intro hQ;(refine GL.Zt rfl rfl rfl rfl ?_;refine vb dR fD ?_);exact hQ.1):A:=s ⟨h⟩
theorem oL {A B:Prop} (h:B) (s:Hid B->A:=by intro hQ;(refine GL.S6 rfl rfl rfl rfl ?_;refine vb dR fD ?_);exact hQ.1):A:=s ⟨h⟩
theorem fG {A B:Prop} (h:B) (s:Hid B->A:=by intro hQ;(refine GL.push rfl rfl rfl rfl rfl rfl rfl rfl bf ⟨⟨by omega,by omega⟩,by decide⟩ ?_;refine vb dR fD ?_);exact hQ.1):A:=s ⟨h⟩
theorem Ef {A B:Prop} (h:B) (s:Hid B->A:=by intro hQ;(refine OA rfl rfl (GL.S6 rfl rfl rfl rfl (GL.nil (be (ft.mk jH ?_))));refine pg dR fD ?_);exact hQ.1):A:=s ⟨h⟩
theorem Ee {A B:Prop} (h:B) (s:Hid B->A:=by intro hQ;(refine OA rfl rfl (GL.app rfl rfl rfl bf rfl rfl (by refine ⟨?_,?_⟩;(· show _+1<=_;omega);(· show (_+1) * _<=_;omega)) (GL.nil (be (ft.mk jH ?_))));refine pg dR fD ?_);exact hQ.1):A:=s ⟨h⟩
theorem eZ {A B:Prop} (h:B) (s:Hid B->A:=by intro hQ;(refine OA rfl rfl (GL.Zt rfl rfl rfl rfl (GL.nil (be (ft.mk jH ?_))));refine pg dR fD ?_);exact hQ.1):A:=s ⟨h⟩
theorem Iu {A B:Prop} (h:B) (s:Hid B->A:=by intro hQ;(refine OA rfl rfl (GL.st rfl rfl rfl rfl rfl rfl (GL.nil (be (ft.mk jH ?_))));refine pg dR fD ?_);exact hQ.1):A:=s ⟨h⟩
theorem Mv {A B:Prop} (h:B) (s:Hid B->A:=by intro hQ;(refine OA rfl rfl (GL.PB 1 (by kernel_rfl) (by kernel_rfl) rfl rfl rfl rfl cM eP (GL.nil (be (ft.mk jH ?_))));refine pg dR fD ?_);exact hQ.1):A:=s ⟨h⟩
theorem Iw {A B:Prop} (h:B) (s:Hid B->A:=by intro hQ;(refine GL.Zw rfl rfl rfl bf rfl rfl rfl rfl ?_;refine vb dR fD ?_);exact hQ.1):A:=s ⟨h⟩
theorem wU {A B:Prop} (h:B) (s:Hid B->A:=by intro hQ;(refine GL.aaC rfl rfl (by first | rfl | assumption | omega) eP rfl rfl rfl rfl ?_;refine vb dR fD ?_);exact hQ.1):A:=s ⟨h⟩
theorem dG {A B:Prop} (h:B) (s:Hid B->A:=by intro hQ;(refine ⟨by simp,?_⟩;refine vb dR fD ?_);exact hQ.1):A:=s ⟨h⟩
theorem dE {A B:Prop} (h:B) (s:Hid B->A:=by intro hQ;(refine GL.nil (be (ft.mk jH ?_));refine pg dR fD ?_);exact hQ.1):A:=s ⟨h⟩
theorem oZ {A:Prop} (s:A:=by simp only [aU,v7];rfl):A:=s
theorem jR {A:Prop} (s:A:=by first | exact j0.refl | exact kY.refl | (repeat (first | exact j0.nil | exact kY.refl | exact kY.nil | exact kY.U | exact kY.fn0 | refine j0.cons ?_ ?_ | refine kY.agg ?_ | refine kY.tup ?_))):A:=s
theorem av {A:Prop} (s:A:=by repeat (first | exact ud.nil | refine ud.U ?_ | refine ud.eq rfl ?_)):A:=s
theorem lu {A B C:Prop} (aR:List Nat) (c:C) (h:B) (s:tY aR C->Hid B->A:=by intro hC hQ;(refine GL.vX hC xQ rfl nE rfl ?_;refine vb dR fD ?_);exact hQ.1):A:=s ⟨c⟩ ⟨h⟩
theorem D {A B C:Prop} (aR:List Nat) (c:C) (h:B) (s:tY aR C->Hid B->A:=by intro hC hQ;(refine GL.vX hC xQ rfl nE rfl ?_;refine vb dR fD ?_);refine G ?_;exact hQ.1):A:=s ⟨c⟩ ⟨h⟩
theorem Cd {A B C:Prop} (aR:List Nat) (c:C) (h:B) (s:tY aR C->Hid B->A:=by intro hC hQ;(refine OA rfl rfl (GL.vX hC xQ rfl nE rfl (GL.nil (be (ft.mk jH ?_))));refine pg dR fD ?_);exact hQ.1):A:=s ⟨c⟩ ⟨h⟩
theorem az {A B C:Prop} (aR:List Nat) (c:C) (h:B) (s:tY aR C->Hid B->A:=by intro hC hQ;(refine OA rfl rfl (GL.vX hC xQ rfl nE rfl (GL.nil (be (ft.mk jH ?_))));refine pg dR fD ?_);refine au ?_;exact hQ.1):A:=s ⟨c⟩ ⟨h⟩
theorem Zy {A B C:Prop} (aR:List Nat) (c:C) (h:B) (s:tY aR C->Hid B->A:=by intro hC hQ;(refine R4 rfl rfl rfl (by first | exact rfl | assumption) (GL.vX hC xQ rfl nE rfl (GL.nil (be (ft.mk jH ?_))));refine pg dR fD ?_);exact hQ.1):A:=s ⟨c⟩ ⟨h⟩
theorem bL {A B C:Prop} (aR:List Nat) (c:C) (h:B) (s:tY aR C->Hid B->A:=by intro hC hQ;(refine R4 rfl rfl rfl (by first | exact rfl | assumption) (GL.vX hC xQ rfl nE rfl (GL.nil (be (ft.mk jH ?_))));refine pg dR fD ?_);refine au ?_;exact hQ.1):A:=s ⟨c⟩ ⟨h⟩
theorem ju {A B C:Prop} (aR:List Nat) (c:C) (h:B) (s:tY aR C->Hid B->A:=by intro hC hQ;(refine GL.M4 hC rfl rfl rfl nE ?_;rintro _ _ ⟨rfl,rfl⟩;refine ⟨by simp,?_⟩;refine vb dR fD ?_);exact hQ.1):A:=s ⟨c⟩ ⟨h⟩
theorem kT {A B C:Prop} (aR:List Nat) (c:C) (h:B) (s:tY aR C->Hid B->A:=by intro hC hQ;(refine GL.M5 hC rfl rfl rfl nE ?_;rintro _ _ ⟨rfl,rfl⟩;refine ⟨by simp,?_⟩;refine vb dR fD ?_);exact hQ.1):A:=s ⟨c⟩ ⟨h⟩
theorem zo {A B C:Prop} (aR:List Nat) (c:C) (h:B) (s:tY aR C->Hid B->A:=by intro hC hQ;(refine OA rfl rfl (GL.M4 hC rfl rfl rfl nE ?_);rintro _ _ ⟨rfl,rfl⟩;refine ⟨by simp,(GL.nil (be (ft.mk jH ?_)))⟩;refine pg dR fD ?_);exact hQ.1):A:=s ⟨c⟩ ⟨h⟩
theorem oM {A B C:Prop} (aR:List Nat) (c:C) (h:B) (s:tY aR C->Hid B->A:=by intro hC hQ;(refine OA rfl rfl (GL.M5 hC rfl rfl rfl nE ?_);rintro _ _ ⟨rfl,rfl⟩;refine ⟨by simp,(GL.nil (be (ft.mk jH ?_)))⟩;refine pg dR fD ?_);exact hQ.1):A:=s ⟨c⟩ ⟨h⟩
theorem dm {A B C:Prop} (aR:List Nat) (c:C) (h:B) (s:tY aR C->Hid B->A:=by intro hC hQ;(refine GL.Vd hC xQ rfl nE ?_);exact hQ.1):A:=s ⟨c⟩ ⟨h⟩
theorem dT {A B C abe : Prop} (f : C) (n : abe) (h : B) (s : C -> abe -> Hid B -> A := by intro hC hD hQ;refine GC.enter hC hD rfl (by simp only [yz,G4,Nat.reduceSub];rfl) ?_;exact hQ.1) : A := s f n ⟨h⟩
theorem ai {A B C abe : Prop} (f : C) (n : abe) (h : B) (s : C -> abe -> Hid B -> A := by intro hC hD hQ;refine GC.enter hC hD rfl (by simp only [yz,G4,Nat.reduceSub];rfl) ?_;refine G ?_;exact hQ.1) : A := s f n ⟨h⟩
theorem ak {A : Prop} (s : A := by refine bV ?_;exact ⟨rfl,rfl⟩) : A := s
theorem ax {A : Prop} (s : A := by refine G ?_;refine bV ?_;exact ⟨rfl,rfl⟩) : A := s
theorem gL {A : Prop} (s : A := by refine cZ ?_;exact ⟨rfl,rfl⟩) : A := s
theorem l8 {A : Prop} (s : A := by refine G ?_;refine cZ ?_;exact ⟨rfl,rfl⟩) : A := s
theorem nj {A : Prop} (s : A := by refine Aa ?_;exact ⟨rfl,rfl⟩) : A := s
theorem r6 {A : Prop} (s : A := by refine G ?_;refine Aa ?_;exact ⟨rfl,rfl⟩) : A := s
theorem dF {A : Prop} (s : A := by refine KV ?_;exact ⟨rfl,rfl⟩) : A := s
theorem qn {A : Prop} (s : A := by refine G ?_;refine KV ?_;exact ⟨rfl,rfl⟩) : A := s
theorem aj {A : Prop} (s : A := by kernel_rfl) : A := s
theorem ag {A : Prop} (s : A := by omega) : A := s
theorem nS {A B : Prop} (h : B) (s : Hid B -> A := by intro hQ;(repeat (first | refine GW.ret ?_ | refine nu ?_ | refine nt ?_ | refine be ?_ | refine jf ?_));exact hQ.1) : A := s ⟨h⟩
theorem abd {A : Prop} (s : A := by first | rfl | assumption) : A := s
theorem ig {A : Prop} (s : A := by rintro k _ _ ⟨rfl,rfl,_⟩;exact ⟨rfl,rfl,rfl⟩) : A := s
theorem jb {A : Prop} (s : A := by exact ⟨_,_,Wk.aK av,rfl,rfl⟩) : A := s
theorem jW {A : Prop} (s : A := by exact ⟨_,_,Wk.aK av,rfl,rfl,rfl⟩) : A := s
theorem jd {A : Prop} (s : A := by refine G ?_;exact ⟨_,_,Wk.aK av,rfl,rfl⟩) : A := s
theorem dI {A : Prop} (s : A := by exact ⟨rfl,rfl,rfl⟩) : A := s
theorem bj {A B : Prop} (h : B) (s : Hid B -> A := by intro hQ;refine au ?_;refine G ?_;exact hQ.1) : A := s ⟨h⟩
theorem dd {A B : Prop} (h : B) (s : Hid B -> A := by intro hQ;refine G ?_;refine jQ ?_;exact hQ.1) : A := s ⟨h⟩
theorem oK {A : Prop} (s : A := by exact ⟨⟨by omega,by omega⟩,by decide⟩) : A := s
theorem aM {A : Prop} (s : A := by decide) : A := s
def aD:Nat->Nat->Ot->Ot
 | _,0,r=>r
 | s,n+1,r=>.q s (aD (s+1) n r)
def aaD:List Nat->Ot->Ot
 | [],r=>r
 | i::l,r=>.q i (aaD l r)
theorem aJ {P:Program} {m id:Nat} {ol:List Oper} {Q:eu} {fr:List GV} {Γ:List Ob} (ord:Ot) (h:GO P ol.toArray (Q .normal) ord [] fr Γ) (hm:P.follows .mixedOrders=true:=by kernel_rfl) (eT:(Region.noSelect ol.toArray&&(ord.len==ol.length)&&uO ol.toArray ord (Array.replicate ol.toArray.size false))=true:=by kernel_rfl):GW P m (.region id ol.toArray true) Q fr Γ:=GW.draw ord hm eT h
end Go.Xg
namespace Go.Xw
open Go.Proofs Tryz
open Go.Xg (aj)
instance:aI prog 7:=⟨aj⟩
instance:aI prog 8:=⟨aj⟩
instance:aI prog 9:=⟨aj⟩
instance:aI prog 10:=⟨aj⟩
instance:aI prog 11:=⟨aj⟩
instance:aI prog 12:=⟨aj⟩
instance:aI prog 13:=⟨aj⟩
instance:aI prog 14:=⟨aj⟩
instance:aI prog 15:=⟨aj⟩
instance:aI prog 16:=⟨aj⟩
instance:aI prog 17:=⟨aj⟩
instance:aI prog 18:=⟨aj⟩
instance:aI prog 19:=⟨aj⟩
instance:aI prog 20:=⟨aj⟩
instance:aI prog 21:=⟨aj⟩
instance:aI prog 22:=⟨aj⟩
instance:aI prog 23:=⟨aj⟩
instance:aI prog 24:=⟨aj⟩
instance:aI prog 25:=⟨aj⟩
instance:aI prog 26:=⟨aj⟩
instance:aI prog 27:=⟨aj⟩
instance:aI prog 28:=⟨aj⟩
instance:aI prog 29:=⟨aj⟩
instance:aI prog 30:=⟨aj⟩
instance:aI prog 31:=⟨aj⟩
instance:aI prog 32:=⟨aj⟩
instance:aI prog 33:=⟨aj⟩
instance:aI prog 34:=⟨aj⟩
instance:aI prog 35:=⟨aj⟩
instance:aI prog 36:=⟨aj⟩
instance:aI prog 37:=⟨aj⟩
instance:aI prog 38:=⟨aj⟩
instance:aI prog 39:=⟨aj⟩
instance:aI prog 40:=⟨aj⟩
instance:aI prog 41:=⟨aj⟩
instance:aI prog 42:=⟨aj⟩
instance:aI prog 43:=⟨aj⟩
instance:aI prog 44:=⟨aj⟩
instance:aI prog 45:=⟨aj⟩
instance:aI prog 46:=⟨aj⟩
instance:aI prog 47:=⟨aj⟩
instance:aI prog 48:=⟨aj⟩
instance:aI prog 49:=⟨aj⟩
instance:aI prog 50:=⟨aj⟩
instance:aI prog 51:=⟨aj⟩
instance:aI prog 52:=⟨aj⟩
instance:aI prog 53:=⟨aj⟩
instance:aI prog 54:=⟨aj⟩
instance:aI prog 55:=⟨aj⟩
instance:aI prog 56:=⟨aj⟩
instance:aI prog 57:=⟨aj⟩
instance:aI prog 58:=⟨aj⟩
instance:aI prog 59:=⟨aj⟩
instance:aI prog 60:=⟨aj⟩
instance:aI prog 61:=⟨aj⟩
instance:aI prog 62:=⟨aj⟩
instance:aI prog 63:=⟨aj⟩
instance:aI prog 64:=⟨aj⟩
instance:aI prog 65:=⟨aj⟩
instance:aI prog 66:=⟨aj⟩
instance:aI prog 67:=⟨aj⟩
instance:aI prog 68:=⟨aj⟩
instance:aI prog 69:=⟨aj⟩
instance:aI prog 70:=⟨aj⟩
instance:aI prog 71:=⟨aj⟩
instance:aI prog 72:=⟨aj⟩
instance:aI prog 73:=⟨aj⟩
instance:aI prog 74:=⟨aj⟩
instance:aI prog 75:=⟨aj⟩
instance:aI prog 76:=⟨aj⟩
instance:aI prog 77:=⟨aj⟩
instance:aI prog 78:=⟨aj⟩
instance:aI prog 79:=⟨aj⟩
instance:aI prog 80:=⟨aj⟩
instance:aI prog 81:=⟨aj⟩
instance:aI prog 82:=⟨aj⟩
instance:aI prog 83:=⟨aj⟩
instance:aI prog 84:=⟨aj⟩
instance:aI prog 85:=⟨aj⟩
instance:aI prog 86:=⟨aj⟩
instance:aI prog 87:=⟨aj⟩
instance:aI prog 88:=⟨aj⟩
instance:aI prog 89:=⟨aj⟩
instance:aI prog 90:=⟨aj⟩
instance:aI prog 91:=⟨aj⟩
instance:aI prog 92:=⟨aj⟩
instance:aI prog 93:=⟨aj⟩
instance:aI prog 94:=⟨aj⟩
instance:aI prog 95:=⟨aj⟩
instance:aI prog 96:=⟨aj⟩
instance:aI prog 97:=⟨aj⟩
instance:aI prog 98:=⟨aj⟩
instance:aI prog 99:=⟨aj⟩
instance:aI prog 100:=⟨aj⟩
instance:aI prog 101:=⟨aj⟩
instance:aI prog 102:=⟨aj⟩
instance:aI prog 103:=⟨aj⟩
instance:aI prog 104:=⟨aj⟩
instance:aI prog 105:=⟨aj⟩
instance:aI prog 108:=⟨aj⟩
instance:aI prog 109:=⟨aj⟩
instance:aI prog 110:=⟨aj⟩
instance:aI prog 111:=⟨aj⟩
instance:aI prog 112:=⟨aj⟩
instance:aI prog 113:=⟨aj⟩
instance:aI prog 114:=⟨aj⟩
instance:aI prog 115:=⟨aj⟩
instance:aI prog 116:=⟨aj⟩
instance:aI prog 117:=⟨aj⟩
instance:aI prog 118:=⟨aj⟩
instance:aI prog 119:=⟨aj⟩
instance:aI prog 120:=⟨aj⟩
instance:aI prog 121:=⟨aj⟩
instance:aI prog 122:=⟨aj⟩
instance:aI prog 123:=⟨aj⟩
instance:aI prog 124:=⟨aj⟩
instance:aI prog 125:=⟨aj⟩
instance:aI prog 126:=⟨aj⟩
instance:aI prog 127:=⟨aj⟩
instance:aI prog 128:=⟨aj⟩
instance:aI prog 129:=⟨aj⟩
instance:aI prog 130:=⟨aj⟩
instance:aI prog 131:=⟨aj⟩
instance:aI prog 132:=⟨aj⟩
instance:aI prog 144:=⟨aj⟩
instance:aI prog 145:=⟨aj⟩
instance:aI prog 146:=⟨aj⟩
instance:aI prog 147:=⟨aj⟩
instance:aI prog 148:=⟨aj⟩
instance:aI prog 149:=⟨aj⟩
instance:aI prog 150:=⟨aj⟩
instance:aI prog 151:=⟨aj⟩
instance:aI prog 152:=⟨aj⟩
instance:aI prog 153:=⟨aj⟩
instance:aI prog 154:=⟨aj⟩
instance:aI prog 155:=⟨aj⟩
instance:aI prog 156:=⟨aj⟩
instance:aI prog 157:=⟨aj⟩
instance:aI prog 158:=⟨aj⟩
instance:aI prog 159:=⟨aj⟩
instance:aI prog 160:=⟨aj⟩
instance:aI prog 161:=⟨aj⟩
instance:aI prog 162:=⟨aj⟩
instance:aI prog 163:=⟨aj⟩
instance:aI prog 164:=⟨aj⟩
instance:aI prog 165:=⟨aj⟩
instance:aI prog 166:=⟨aj⟩
instance:aI prog 167:=⟨aj⟩
instance:aI prog 168:=⟨aj⟩
instance:aI prog 169:=⟨aj⟩
instance:aI prog 170:=⟨aj⟩
instance:aI prog 171:=⟨aj⟩
instance:aI prog 172:=⟨aj⟩
instance:aI prog 173:=⟨aj⟩
instance:aI prog 180:=⟨aj⟩
instance:aI prog 181:=⟨aj⟩
instance:aI prog 182:=⟨aj⟩
instance:aI prog 183:=⟨aj⟩
instance:aI prog 184:=⟨aj⟩
instance:aI prog 185:=⟨aj⟩
instance:aI prog 186:=⟨aj⟩
instance:aI prog 187:=⟨aj⟩
instance:aI prog 188:=⟨aj⟩
instance:aI prog 189:=⟨aj⟩
instance:aI prog 190:=⟨aj⟩
instance:aI prog 191:=⟨aj⟩
instance:aI prog 192:=⟨aj⟩
instance:aI prog 193:=⟨aj⟩
instance:aI prog 194:=⟨aj⟩
instance:aI prog 195:=⟨aj⟩
instance:aI prog 197:=⟨aj⟩
instance:aI prog 198:=⟨aj⟩
instance:aI prog 199:=⟨aj⟩
instance:aI prog 200:=⟨aj⟩
instance:aI prog 201:=⟨aj⟩
instance:aI prog 202:=⟨aj⟩
instance:aI prog 203:=⟨aj⟩
instance:aI prog 205:=⟨aj⟩
instance:aI prog 207:=⟨aj⟩
instance:aI prog 208:=⟨aj⟩
instance:aI prog 209:=⟨aj⟩
instance:aI prog 210:=⟨aj⟩
instance:aI prog 211:=⟨aj⟩
instance:aI prog 212:=⟨aj⟩
instance:aI prog 213:=⟨aj⟩
instance:aI prog 214:=⟨aj⟩
instance:aI prog 215:=⟨aj⟩
instance:aI prog 216:=⟨aj⟩
instance:aI prog 217:=⟨aj⟩
instance:aI prog 218:=⟨aj⟩
instance:aI prog 219:=⟨aj⟩
instance:aI prog 220:=⟨aj⟩
instance:aI prog 221:=⟨aj⟩
instance:aI prog 223:=⟨aj⟩
instance:aI prog 224:=⟨aj⟩
instance:aI prog 225:=⟨aj⟩
instance:aI prog 226:=⟨aj⟩
instance:aI prog 227:=⟨aj⟩
instance:aI prog 228:=⟨aj⟩
instance:aI prog 230:=⟨aj⟩
instance:aI prog 232:=⟨aj⟩
instance:aI prog 237:=⟨aj⟩
instance:aI prog 238:=⟨aj⟩
instance:aI prog 239:=⟨aj⟩
instance:aI prog 240:=⟨aj⟩
instance:aI prog 241:=⟨aj⟩
instance:aI prog 242:=⟨aj⟩
instance:aI prog 243:=⟨aj⟩
instance:aI prog 244:=⟨aj⟩
instance:aI prog 252:=⟨aj⟩
instance:aI prog 253:=⟨aj⟩
instance:aI prog 254:=⟨aj⟩
instance:aI prog 255:=⟨aj⟩
instance:aI prog 256:=⟨aj⟩
instance:aI prog 263:=⟨aj⟩
instance:aI prog 264:=⟨aj⟩
instance:aI prog 268:=⟨aj⟩
instance:aI prog 271:=⟨aj⟩
instance:Ty prog 3 false 1:=⟨aj,aj⟩
instance:rv prog 3 (.int .i64 (0)):=⟨aj⟩
instance:Go.Xg.Lc prog 3 .i64:=⟨aj⟩
instance:Ty prog 4 false 1:=⟨aj,aj⟩
instance:rv prog 4 (.bool false):=⟨aj⟩
instance:Go.Xg.Lc prog 5 .u8:=⟨aj⟩
instance:Ty prog 9 false 1:=⟨aj,aj⟩
instance:qJ prog 9:=⟨aj⟩
instance:Ty prog 22 false 1:=⟨aj,aj⟩
instance:rv prog 22 (.slice none 0 0):=⟨aj⟩
instance:nT prog 22 9 1:=⟨aj,aj⟩
instance:pz prog 22 9 1 16:=⟨aj⟩
instance:qI prog 22 9 1 [(.string ⟨#[]⟩)]:=⟨aj,aj,aj,rfl,by decide,fun _=>rfl⟩
instance:Ty prog 23 false 1:=⟨aj,aj⟩
instance:nT prog 23 63 2:=⟨aj,aj⟩
instance:Ty prog 24 false 1:=⟨aj,aj⟩
instance:nT prog 24 66 3:=⟨aj,aj⟩
instance:Ty prog 25 false 1:=⟨aj,aj⟩
instance:nT prog 25 68 5:=⟨aj,aj⟩
instance:Ty prog 27 true 4:=⟨aj,aj⟩
instance:dz prog 27 0 0 1 false:=⟨aj⟩
instance:dz prog 27 1 1 1 false:=⟨aj⟩
instance:dz prog 27 2 2 1 false:=⟨aj⟩
instance:dz prog 27 3 3 1 false:=⟨aj⟩
instance:Ty prog 30 false 1:=⟨aj,aj⟩
instance:nT prog 30 78 2:=⟨aj,aj⟩
instance:pz prog 30 78 2 24:=⟨aj⟩
instance:qI prog 30 78 2 [(.string ⟨#[]⟩),(.int .i64 (0))]:=⟨aj,aj,aj,rfl,by decide,fun h=>by cases h⟩
instance:Ty prog 31 false 1:=⟨aj,aj⟩
instance:nT prog 31 77 3:=⟨aj,aj⟩
instance:pz prog 31 77 3 48:=⟨aj⟩
instance:qI prog 31 77 3 [(.string ⟨#[]⟩),(.slice none 0 0),(.int .i64 (0))]:=⟨aj,aj,aj,rfl,by decide,fun h=>by cases h⟩
instance:Ty prog 32 false 1:=⟨aj,aj⟩
instance:nT prog 32 60 5:=⟨aj,aj⟩
instance:pz prog 32 60 5 64:=⟨aj⟩
instance:qI prog 32 60 5 [(.int .i64 (0)),(.int .i64 (0)),(.int .i64 (0)),(.string ⟨#[]⟩),(.slice none 0 0)]:=⟨aj,aj,aj,rfl,by decide,fun h=>by cases h⟩
instance:Ty prog 34 true 4:=⟨aj,aj⟩
instance:rv prog 34 (.agg #[(.slice none 0 0),(.slice none 0 0),(.slice none 0 0),(.slice none 0 0)]):=⟨aj⟩
instance:dz prog 34 0 0 1 false:=⟨aj⟩
instance:dz prog 34 1 1 1 false:=⟨aj⟩
instance:dz prog 34 2 2 1 false:=⟨aj⟩
instance:dz prog 34 3 3 1 false:=⟨aj⟩
instance:ua prog 34 [(0,1),(1,1),(2,1),(3,1)] [(.slice none 0 0),(.slice none 0 0),(.slice none 0 0),(.slice none 0 0)]:=⟨aj,aj⟩
instance:Ty prog 46 false 1:=⟨aj,aj⟩
instance:rv prog 46 (.slice none 0 0):=⟨aj⟩
instance:nT prog 46 3 1:=⟨aj,aj⟩
instance:pz prog 46 3 1 8:=⟨aj⟩
instance:qI prog 46 3 1 [(.int .i64 (0))]:=⟨aj,aj,aj,rfl,by decide,fun _=>rfl⟩
instance:Ty prog 53 false 1:=⟨aj,aj⟩
instance:Ty prog 60 true 5:=⟨aj,aj⟩
instance:rv prog 60 (.agg #[(.int .i64 (0)),(.int .i64 (0)),(.int .i64 (0)),(.string ⟨#[]⟩),(.slice none 0 0)]):=⟨aj⟩
instance:dz prog 60 0 0 1 false:=⟨aj⟩
instance:dz prog 60 1 1 1 false:=⟨aj⟩
instance:dz prog 60 2 2 1 false:=⟨aj⟩
instance:dz prog 60 3 3 1 false:=⟨aj⟩
instance:dz prog 60 4 4 1 false:=⟨aj⟩
instance:ua prog 60 [(0,1),(1,1),(2,1),(3,1),(4,1)] [(.int .i64 (0)),(.int .i64 (0)),(.int .i64 (0)),(.string ⟨#[]⟩),(.slice none 0 0)]:=⟨aj,aj⟩
instance:Ty prog 63 true 2:=⟨aj,aj⟩
instance:dz prog 63 0 0 1 false:=⟨aj⟩
instance:dz prog 63 1 1 1 false:=⟨aj⟩
instance:Ty prog 66 true 3:=⟨aj,aj⟩
instance:dz prog 66 0 0 1 false:=⟨aj⟩
instance:dz prog 66 1 1 1 false:=⟨aj⟩
instance:dz prog 66 2 2 1 false:=⟨aj⟩
instance:Ty prog 68 true 5:=⟨aj,aj⟩
instance:dz prog 68 0 0 1 false:=⟨aj⟩
instance:dz prog 68 1 1 1 false:=⟨aj⟩
instance:dz prog 68 2 2 1 false:=⟨aj⟩
instance:dz prog 68 3 3 1 false:=⟨aj⟩
instance:dz prog 68 4 4 1 false:=⟨aj⟩
instance:Ty prog 73 false 1:=⟨aj,aj⟩
instance:nT prog 73 75 6:=⟨aj,aj⟩
instance:pz prog 73 75 6 88:=⟨aj⟩
instance:qI prog 73 75 6 [(.int .i64 (0)),(.int .i64 (0)),(.int .i64 (0)),(.string ⟨#[]⟩),(.slice none 0 0),(.slice none 0 0)]:=⟨aj,aj,aj,rfl,by decide,fun h=>by cases h⟩
instance:Ty prog 75 true 6:=⟨aj,aj⟩
instance:rv prog 75 (.agg #[(.int .i64 (0)),(.int .i64 (0)),(.int .i64 (0)),(.string ⟨#[]⟩),(.slice none 0 0),(.slice none 0 0)]):=⟨aj⟩
instance:dz prog 75 0 0 5 true:=⟨aj⟩
instance:dz prog 75 1 5 1 false:=⟨aj⟩
instance:ua prog 75 [(0,5),(5,1)] [(.int .i64 (0)),(.int .i64 (0)),(.int .i64 (0)),(.string ⟨#[]⟩),(.slice none 0 0),(.slice none 0 0)]:=⟨aj,aj⟩
instance:Ty prog 77 true 3:=⟨aj,aj⟩
instance:rv prog 77 (.agg #[(.string ⟨#[]⟩),(.slice none 0 0),(.int .i64 (0))]):=⟨aj⟩
instance:dz prog 77 0 0 1 false:=⟨aj⟩
instance:dz prog 77 1 1 1 false:=⟨aj⟩
instance:dz prog 77 2 2 1 false:=⟨aj⟩
instance:ua prog 77 [(0,1),(1,1),(2,1)] [(.string ⟨#[]⟩),(.slice none 0 0),(.int .i64 (0))]:=⟨aj,aj⟩
instance:Ty prog 78 true 2:=⟨aj,aj⟩
instance:rv prog 78 (.agg #[(.string ⟨#[]⟩),(.int .i64 (0))]):=⟨aj⟩
instance:dz prog 78 0 0 1 false:=⟨aj⟩
instance:dz prog 78 1 1 1 false:=⟨aj⟩
instance:ua prog 78 [(0,1),(1,1)] [(.string ⟨#[]⟩),(.int .i64 (0))]:=⟨aj,aj⟩
instance:Ty prog 83 false 1:=⟨aj,aj⟩
instance:dz prog 85 0 0 4 true:=⟨aj⟩
instance:dz prog 85 1 4 1 false:=⟨aj⟩
instance:dz prog 85 2 5 1 false:=⟨aj⟩
instance:ua prog 85 [(0,4),(4,1),(5,1)] [(.slice none 0 0),(.slice none 0 0),(.slice none 0 0),(.slice none 0 0),.nilFunc,(.map none)]:=⟨aj,aj⟩
instance:Ty prog 101 false 1:=⟨aj,aj⟩
instance:dz prog 106 0 0 4 true:=⟨aj⟩
instance:dz prog 106 1 4 1 false:=⟨aj⟩
instance:dz prog 106 2 5 1 false:=⟨aj⟩
instance:dz prog 106 3 6 1 false:=⟨aj⟩
instance:ua prog 106 [(0,4),(4,1),(5,1),(6,1)] [(.slice none 0 0),(.slice none 0 0),(.slice none 0 0),(.slice none 0 0),(.slice none 0 0),(.int .i64 (0)),(.int .i64 (0))]:=⟨aj,aj⟩
instance:Ty prog 113 false 1:=⟨aj,aj⟩
instance:rv prog 113 .nilFunc:=⟨aj⟩
instance:Ty prog 129 false 1:=⟨aj,aj⟩
instance:nT prog 129 166 4:=⟨aj,aj⟩
instance:pz prog 129 166 4 40:=⟨aj⟩
instance:qI prog 129 166 4 [(.int .i64 (0)),(.int .i64 (0)),(.string ⟨#[]⟩),(.int .i64 (0))]:=⟨aj,aj,aj,rfl,by decide,fun h=>by cases h⟩
instance:dz prog 132 0 0 1 false:=⟨aj⟩
instance:dz prog 132 1 1 1 false:=⟨aj⟩
instance:dz prog 132 2 2 1 false:=⟨aj⟩
instance:dz prog 132 3 3 1 false:=⟨aj⟩
instance:dz prog 132 4 4 1 false:=⟨aj⟩
instance:ua prog 132 [(0,1),(1,1),(2,1),(3,1),(4,1)] [(.slice none 0 0),(.int .i64 (0)),(.int .i64 (0)),(.int .i64 (0)),(.int .i64 (0))]:=⟨aj,aj⟩
instance:Ty prog 134 false 1:=⟨aj,aj⟩
instance:nT prog 134 138 1:=⟨aj,aj⟩
instance:pz prog 134 138 1 8:=⟨aj⟩
instance:qI prog 134 138 1 [(.pointer none)]:=⟨aj,aj,aj,rfl,by decide,fun _=>rfl⟩
instance:Ty prog 138 false 1:=⟨aj,aj⟩
instance:Ty prog 141 false 1:=⟨aj,aj⟩
instance:Ty prog 142 false 1:=⟨aj,aj⟩
instance:Ty prog 166 true 4:=⟨aj,aj⟩
instance:rv prog 166 (.agg #[(.int .i64 (0)),(.int .i64 (0)),(.string ⟨#[]⟩),(.int .i64 (0))]):=⟨aj⟩
instance:dz prog 166 0 0 1 false:=⟨aj⟩
instance:dz prog 166 1 1 1 false:=⟨aj⟩
instance:dz prog 166 2 2 1 false:=⟨aj⟩
instance:dz prog 166 3 3 1 false:=⟨aj⟩
instance:ua prog 166 [(0,1),(1,1),(2,1),(3,1)] [(.int .i64 (0)),(.int .i64 (0)),(.string ⟨#[]⟩),(.int .i64 (0))]:=⟨aj,aj⟩
instance:dz prog 178 0 0 5 true:=⟨aj⟩
instance:dz prog 178 1 5 1 false:=⟨aj⟩
instance:ua prog 178 [(0,5),(5,1)] [(.int .i64 (0)),(.int .i64 (0)),(.int .i64 (0)),(.string ⟨#[]⟩),(.slice none 0 0),(.slice none 0 0)]:=⟨aj,aj⟩
instance:Ty prog 179 false 1:=⟨aj,aj⟩
instance:Go.Xg.My prog 179:=Go.Xg.My.mk' (e:=5) (aj) (aj)
instance:nT prog 179 5 1:=⟨aj,aj⟩
instance:qI prog 179 5 1 [(.int .u8 (0))]:=⟨aj,aj,aj,rfl,by decide,fun _=>rfl⟩
instance:Ty prog 182 true 2:=⟨aj,aj⟩
instance:rv prog 182 (.agg #[.nilFunc,.nilFunc]):=⟨aj⟩
instance:dz prog 182 0 0 1 false:=⟨aj⟩
instance:dz prog 182 1 1 1 false:=⟨aj⟩
instance:ua prog 182 [(0,1),(1,1)] [.nilFunc,.nilFunc]:=⟨aj,aj⟩
instance:dz prog 196 0 0 1 false:=⟨aj⟩
instance:dz prog 196 1 1 1 false:=⟨aj⟩
instance:dz prog 196 2 2 1 false:=⟨aj⟩
instance:dz prog 196 3 3 1 false:=⟨aj⟩
instance:dz prog 196 4 4 1 false:=⟨aj⟩
instance:dz prog 196 5 5 1 false:=⟨aj⟩
instance:dz prog 196 6 6 4 true:=⟨aj⟩
instance:ua prog 196 [(0,1),(1,1),(2,1),(3,1),(4,1),(5,1),(6,4)] [(.slice none 0 0),(.int .i64 (0)),(.int .i64 (0)),(.int .i64 (0)),(.int .i64 (0)),(.slice none 0 0),(.slice none 0 0),(.slice none 0 0),(.slice none 0 0),(.slice none 0 0)]:=⟨aj,aj⟩
instance:Ty prog 214 false 1:=⟨aj,aj⟩
instance:rv prog 216 (.agg #[(.pointer none),(.slice none 0 0)]):=⟨aj⟩
instance:dz prog 216 0 0 1 false:=⟨aj⟩
instance:dz prog 216 1 1 1 false:=⟨aj⟩
instance:nT prog 223 22 1:=⟨aj,aj⟩
instance:qI prog 223 22 1 [(.slice none 0 0)]:=⟨aj,aj,aj,rfl,by decide,fun _=>rfl⟩
end Go.Xw
set_option maxHeartbeats 1000000
namespace Go.Xg
open GV (U)
open Go.RowKit Go.Xw Go.Proofs Tryz
open Go.Xp (Tok Nd T br one levels)
open Go.Sp
attribute [local irreducible] GW GL GO YG GC GA ba bc
def dv (t:Tok):List GV:=[.v (ii t.kind),.v (ii t.n),.v (sv t.s),.v (ii t.at_)]
theorem P4 (t:Tok):GF prog 192 [.agg (dv t)] [] (.v (sv (br t))) []:=by
 refine ai func192 ntmps192 ?_;refine GW.cond rfl (fun h=>?_) (fun h=>?_)
 ·refine G ?_;refine bV ?_
  have h:t.kind≠3:=by simpa using h
  rw [br,ab h];exact ⟨rfl,rfl⟩
 ·refine G ?_;refine bV ?_
  have h:t.kind=3:=by simpa using h
  rw [br,ae h];exact ⟨rfl,rfl⟩
abbrev jr (l:List Tok):GV:=.sl 4 (l.map dv)
abbrev cn (p:RS):Ob:=.box 132 [jr p.l,.v (ii p.i),.v (ii p.e),.v (ii p.code),.v (ii p.at_)]
theorem lq {l:List Tok} {i:Nat} {t:Tok} (h:l[i]?=some t):(l.map dv)[i]?=some (dv t):=by rw [aV,h];rfl
theorem lN (p:RS) (hp:p.ok):GF prog 152 [.loc 0 0] [cn p] (.v (ii p.place)) [cn p]:=by
 obtain ⟨lH,ed⟩:=hp
 cases ht:p.l[p.i]? with
 | some t =>
  have hr:=lq ht;have ar:p.i < p.l.length:=(bh ht).1
  have hd:decide ((p.i:Int) < ((p.l.map dv).length:Int))=true:=by simpa using ar
  refine ai func152 ntmps152 ?_;refine aJ (aD 0 10 .nil) ?_;refine bj ?_;refine aJ (aD 0 12 .nil) ?_;refine bj ?_;refine bV ?_;rw [RS.place,ht];exact ⟨rfl,rfl⟩
 | none =>
  have ar:p.l.length<=p.i:=py ht
  have hd:decide ((p.i:Int) < ((p.l.map dv).length:Int))=false:=by simpa using ar
  refine ai func152 ntmps152 ?_;refine aJ (aD 0 10 .nil) ?_;refine bj ?_;refine bV ?_;rw [RS.place,ht];exact ⟨rfl,rfl⟩
theorem dr (p:RS) (k:Nat) (hp:p.ok) (hk:k<=1):GF prog 154 [.loc 0 0,.v (ii k)] [cn p] (.v (sv (p.sign k))) [cn p]:=by
 obtain ⟨lH,ed⟩:=hp
 by_cases hc:p.code=0
 ·have dK:(p.code != 0)=false:=by simpa using hc
  cases ht:p.l[p.i+k]? with
  | some t =>
   have hr:=lq ht;have ar:p.i+k < p.l.length:=(bh ht).1
   have hd:decide (((p.l.map dv).length:Int)<=((p.i+k:Nat):Int))=false:=by simp;omega
   refine ai func154 ntmps154 ?_;refine aJ (aD 0 19 .nil) ?_;refine bj ?_;refine aJ (aD 0 12 (.a 12 (.q 13 .nil))) ?_;refine au ?_;refine az [] (P4 t) ?_;refine G ?_;refine bV ?_;rw [RS.sign,ae hc,ht];exact ⟨rfl,rfl⟩
  | none =>
   have ar:p.l.length<=p.i+k:=py ht
   have hd:decide (((p.l.map dv).length:Int)<=((p.i+k:Nat):Int))=true:=by simp;omega
   refine ai func154 ntmps154 ?_;refine aJ (aD 0 19 .nil) ?_;refine bj ?_;refine bV ?_;rw [RS.sign,ae hc,ht];exact ⟨rfl,rfl⟩
 ·have dK:(p.code != 0)=true:=by simpa using hc
  refine ai func154 ntmps154 ?_;refine aJ (aD 0 19 .nil) ?_;refine bj ?_;refine bV ?_;rw [RS.sign,ab hc];exact ⟨rfl,rfl⟩
theorem mN (p:RS) (c a:Int):GF prog 191 [.loc 0 0,.v (ii c),.v (ii a)] [cn p] (.tup []) [cn (p.fail c a)]:=by
 refine ai func191 ntmps191 ?_;refine GW.cond rfl (fun h=>?_) (fun h=>?_)
 ·refine G ?_;refine cZ ?_
  have h:p.code=0:=by simpa using h
  rw [RS.fail,ae h];exact ⟨rfl,rfl⟩
 ·refine G ?_;refine cZ ?_
  have h:¬ p.code=0:=by simpa using h
  rw [RS.fail,ab h];exact ⟨rfl,rfl⟩
theorem dq (p:RS) (s:ah) (hp:p.ok) (hs:s≠[]):GF prog 153 [.loc 0 0,.v (sv s)] [cn p] (.tup []) [cn (p.aP s)]:=by
 refine ai func153 ntmps153 ?_;refine lu [0] (dr p 0 hp aM) ?_
 by_cases h:p.sign 0=s
 ·have h':(!(p.sign 0==s))=false:=by simp [h]
  have hl:=(gw h hs).1;obtain ⟨lH,ed⟩:=hp;refine G ?_;refine cZ ?_;rw [RS.aP,ae h];exact ⟨rfl,rfl⟩
 ·have h':(!(p.sign 0==s))=true:=by simpa using h
  refine G ?_;refine D [0] (lN p hp) ?_;refine D [0] (mN p 7 p.place) ?_;refine cZ ?_;rw [RS.aP,ab h];exact ⟨rfl,rfl⟩
theorem vq (p:RS) (d:Nat) (hp:p.ok):GF prog 150 [.loc 0 0,.v (ii d)] [cn p] (.tup []) [cn (p.deep d)]:=by
 by_cases h:d > 60
 ·have h':decide ((60:Int) < (d:Int))=true:=by simp;omega
  refine ai func150 ntmps150 ?_;refine D [0] (lN p hp) ?_;refine D [0] (mN p 9 p.place) ?_;refine cZ ?_;rw [RS.deep,ae h];exact ⟨rfl,rfl⟩
 ·have h':decide ((60:Int) < (d:Int))=false:=by simp;omega
  refine ai func150 ntmps150 ?_;refine cZ ?_;rw [RS.deep,ab h];exact ⟨rfl,rfl⟩
theorem yY (p:RS) (hp:p.ok):GF prog 193 [.loc 0 0] [cn p] (.v (sv p.name.1)) [cn p.name.2]:=by
 obtain ⟨lH,ed⟩:=id hp
 by_cases hc:p.code=0
 ·have dK:(p.code != 0)=false:=by simpa using hc
  cases ht:p.l[p.i]? with
  | some t =>
   have hr:=lq ht;have ar:p.i < p.l.length:=(bh ht).1
   have hd:decide (((p.l.map dv).length:Int)<=(p.i:Int))=false:=by simp;omega
   by_cases hk:t.kind=2
   ·have mq:(t.kind != 2)=false:=by simpa using hk
    by_cases hs:t.s.length > 12
    ·have pe:decide ((12:Int) < (t.s.length:Int))=true:=by simp;omega
     refine ai func193 ntmps193 ?_;refine aJ (aD 0 24 .nil) ?_;refine bj ?_;refine aJ (aD 0 10 (.a 10 (.a 11 .nil))) ?_;refine bj ?_;refine D [0] (mN p 8 t.at_) ?_;refine bV ?_;rw [RS.name,ae hc,ht];simp only [ae hk,ae hs];exact ⟨rfl,rfl⟩
    ·have pe:decide ((12:Int) < (t.s.length:Int))=false:=by simp;omega
     refine ai func193 ntmps193 ?_;refine aJ (aD 0 24 .nil) ?_;refine bj ?_;refine aJ (aD 0 10 (.a 10 (.a 11 .nil))) ?_;refine bj ?_;refine bV ?_;rw [RS.name,ae hc,ht];simp only [ae hk,ab hs];exact ⟨rfl,rfl⟩
   ·have mq:(t.kind != 2)=true:=by simpa using hk
    refine ai func193 ntmps193 ?_;refine aJ (aD 0 24 .nil) ?_;refine bj ?_;refine D [0] (lN p hp) ?_;refine D [0] (mN p 7 p.place) ?_;refine bV ?_;rw [RS.name,ae hc,ht];simp only [ab hk];exact ⟨rfl,rfl⟩
  | none =>
   have ar:p.l.length<=p.i:=py ht
   have hd:decide (((p.l.map dv).length:Int)<=(p.i:Int))=true:=by simp;omega
   refine ai func193 ntmps193 ?_;refine aJ (aD 0 24 .nil) ?_;refine bj ?_;refine D [0] (lN p hp) ?_;refine D [0] (mN p 7 p.place) ?_;refine bV ?_;rw [RS.name,ae hc,ht];exact ⟨rfl,rfl⟩
 ·have dK:(p.code != 0)=true:=by simpa using hc
  refine ai func193 ntmps193 ?_;refine bV ?_;rw [RS.name,ab hc];exact ⟨rfl,rfl⟩
abbrev ints (l:List Int):GV:=.sl 1 (l.map fun i=>[.v (ii i)])
abbrev strs (l:List ah):GV:=.sl 1 (l.map fun s=>[.v (sv s)])
mutual
def Vm:T->List GV
 | .mk n k=>[.v (ii n.kind),.v (ii n.at_),.v (ii n.n),.v (sv n.s),ints n.kids,.sl 6 (aU k)]
def aU:List T->List (List GV)
 | []=>[]
 | t::r=>Vm t::aU r
end
abbrev cT (t:T):List GV:=[.v (ii t.n.kind),.v (ii t.n.at_),.v (ii t.n.n),.v (sv t.n.s),ints t.n.kids,.sl 6 (aU t.kids)]
theorem v7 (t:T):Vm t=cT t:=by
 cases t;rfl
theorem gZ (k a:Int) (s:ah) (l:List T) (rows:List (List GV)) (h:aU l=rows):GF prog 151 [.v (ii k),.v (ii a),.v (sv s),.sl 6 rows] [] (.agg (cT (one k a s l))) []:=by
 subst h;refine ai func151 ntmps151 ?_;refine r8 ?_;exact ⟨_,jR,rfl,rfl⟩
theorem kr:GF prog 224 [] [] (.sl 1 (levels.map fun l=>[strs l])) []:=by
 refine ai func224 ntmps224 ?_
 iterate 10 (refine b6 ?_)
 exact ax
theorem FK {xs:List ah} {k:Nat} {s x:ah} (h:xs[k]?=some x):(xs.take (k+1)).contains s=((xs.take k).contains s || (x==s)):=by
 rw [cq,h,List.contains_append];show (_ || [x].contains s)=_
 congr 1
 rw [List.contains_cons,List.contains_nil,Bool.or_false];exact Bool.beq_comm
theorem jT (xs:List ah) (s:ah) (hl:xs.length<=1099511627776):GF prog 90 [strs xs,.v (sv s)] [] (.v (.bool (xs.contains s))) []:=by
 refine ai func90 ntmps90 ?_;refine GW.range (xs.map fun s=>[GV.v (sv s)]).length (fun k fr Γ=>fr=[strs xs,.v (sv s),U,U,U,U,U,strs xs,.v (ii ((xs.map fun s=>[GV.v (sv s)]).length:Int)),.v (ii k),U,U,U,U,U,U,U]/\Γ=[]/\(xs.take k).contains s=false) ?_ (by simpa using hl) ?_ ?_ ?_
 ·exact jW
 ·exact ig
 ·rintro k _ _ ar ⟨rfl,rfl,hc⟩
  have ar:k < xs.length:=by simpa using ar
  have hx:xs[k]?=some xs[k]:=by simp [ar]
  have hr:(xs.map fun s=>[GV.v (sv s)])[k]?=some [.v (sv xs[k])]:=by simp [ar]
  have fm:=FK (s:=s) hx;refine G ?_;refine GW.cond rfl (fun F=>?_) (fun F=>?_)
  ·refine G ?_;refine bV ?_
   have h3:xs[k]=s:=by simpa using F
   have:s∈xs:=by rw [<-h3];exact getElem_mem _
   refine ⟨?_,rfl⟩;show GV.v (.bool true)=_;rw [ej.2 this]
  ·refine G ?_;exact ⟨rfl,rfl,_,_,Wk.aK av,rfl,rfl,by rw [fm,hc,F];rfl⟩
 ·rintro _ _ ⟨rfl,rfl,hc⟩;refine G ?_;refine bV ?_
  have hc:xs.contains s=false:=by simpa using hc
  refine ⟨?_,rfl⟩;show GV.v (.bool false)=_;rw [hc]
end Go.Xg
namespace Go.Xg
open Go.RowKit Go.Xw
section
variable {P:Program} {m:Nat} {Q:eu} {fr:List GV} {Γ:List Ob}
theorem GW.S2 {c y:Code} {B:Nat} (K:List GV->List Ob->Prop) (I:GW P m c (bc B (ba (Ak m K) Q)) fr Γ) (F:∀ fr Γ,K fr Γ->GW P m y Q fr Γ):GW P m c (bc B (ba (GW P m y Q) Q)) fr Γ:=by
 refine I.mono fun e fr Γ hq=>?_
 have key:∀ fr Γ,Ak m K fr Γ->GW P m y Q fr Γ:=fun fr Γ ⟨cl,aS,hw,hk⟩=>GW.wk hw (F _ _ hk)
 cases e with
 | normal=>exact key _ _ hq
 | exit n =>
  simp only [bc] at hq |-;split
  ·rename_i hn;rw [ae hn] at hq;exact key _ _ hq
  ·rename_i hn;rw [ab hn] at hq;exact hq
 | _=>exact hq
end
section
variable {P:Program} {fn:Func} {m:Nat} {R:GV->List Ob->Prop} {fr:List GV} {Γ:List Ob} {e:Exit}
theorem XO {n:Nat} {t u:Tmp} {T:TypeId} {k:Nat} [hT:Ty P T true k] {i:Nat} {E:TypeId} {cs:List GV} {g:GV} (hr:fn.results=#[.cell t T,.tmp u]) (he:e=.normal\/e=.ret) (hg:dj fr t=.loc i 0) (bJ:Γ[i]?=some (.box E cs)) (hk:cs.length=k) (ik:dj fr u=g)
  (hm:m<=n) (hl:AP n (Γ.take n)=true) (lF:(GV.tup [.agg cs,g]).lt n=true) (h:R (.tup [.agg cs,g]) (Γ.take n)):xY P fn m R e fr Γ :=
 ⟨he,fun B K β w l hB hI hF=>by
  obtain ⟨b,vs,I,F,h3,h4⟩:=hI.ob i _ bJ
  have hp:nth l t=.pointer (some ⟨b,0,none⟩):=by
   have:=hF.nth t;rw [hg] at this;generalize nth l t=v at this
   cases this with
   | loc _ _ b' bo=>rw [I] at bo;cases bo;rfl
  have kp:l.toArray.getD t undef=.pointer (some ⟨b,0,none⟩):=by rw [lO,hp]
  have N8:=ri (P:=P) (w:=w) (t:=T) (b:=b) (o:=0) (vs:=vs) (k:=k) (by rw [h3.1,hk]) (fun j v hj=>by
   rw [fk,cell_of_row w b j _ E (0,0) F];simpa using hj)
  have Hj:l[t]?.getD undef=.pointer (some ⟨b,0,none⟩):=by simpa using kp
  refine ⟨.tuple #[.agg vs.toArray,nth l u],K,fU (below n) β,.tup [.agg cs,g],Γ.take n,?_,hI.cut ag hl,?_,h⟩
  ·rw [<-lO l u];simp [results,hr,Hj,asAddr,N8]
  ·refine Rel.res ?_ lF;subst ik;have hc:bg K β [.agg vs.toArray,nth l u] [.agg cs,dj fr u]:=.cons (.agg vs cs h3.1 h3.2) (.cons (hF.nth u) .nil)
   exact .tup _ _ hc.1 hc.2⟩
theorem NO {n:Nat} {t u s:Tmp} {T:TypeId} {k:Nat} [hT:Ty P T true k] {i:Nat} {E:TypeId} {cs:List GV} {g g':GV} (hr:fn.results=#[.cell t T,.tmp u,.tmp s]) (he:e=.normal\/e=.ret) (hg:dj fr t=.loc i 0) (bJ:Γ[i]?=some (.box E cs)) (hk:cs.length=k) (ik:dj fr u=g) (hg3:dj fr s=g')
  (hm:m<=n) (hl:AP n (Γ.take n)=true) (lF:(GV.tup [.agg cs,g,g']).lt n=true) (h:R (.tup [.agg cs,g,g']) (Γ.take n)):xY P fn m R e fr Γ :=
 ⟨he,fun B K β w l hB hI hF=>by
  obtain ⟨b,vs,I,F,h3,h4⟩:=hI.ob i _ bJ
  have hp:nth l t=.pointer (some ⟨b,0,none⟩):=by
   have:=hF.nth t;rw [hg] at this;generalize nth l t=v at this
   cases this with
   | loc _ _ b' bo=>rw [I] at bo;cases bo;rfl
  have kp:l.toArray.getD t undef=.pointer (some ⟨b,0,none⟩):=by rw [lO,hp]
  have N8:=ri (P:=P) (w:=w) (t:=T) (b:=b) (o:=0) (vs:=vs) (k:=k) (by rw [h3.1,hk]) (fun j v hj=>by
   rw [fk,cell_of_row w b j _ E (0,0) F];simpa using hj)
  have Hj:l[t]?.getD undef=.pointer (some ⟨b,0,none⟩):=by simpa using kp
  refine ⟨.tuple #[.agg vs.toArray,nth l u,nth l s],K,fU (below n) β,.tup [.agg cs,g,g'],Γ.take n,?_,hI.cut ag hl,?_,h⟩
  ·rw [<-lO l u,<-lO l s];simp [results,hr,Hj,asAddr,N8]
  ·refine Rel.res ?_ lF;subst ik hg3;have hc:bg K β [.agg vs.toArray,nth l u,nth l s] [.agg cs,dj fr u,dj fr s]:=.cons (.agg vs cs h3.1 h3.2) (.cons (hF.nth u) (.cons (hF.nth s) .nil))
   exact .tup _ _ hc.1 hc.2⟩
end
end Go.Xg
namespace Go.Xg
open GV (U)
open Go.RowKit Go.Xw Go.Proofs Tryz
open Go.Xp (Tok Nd T br one levels)
open Go.Sp
attribute [local irreducible] GW GL GO YG GC GA ba bc
abbrev EB (c:UInt8):GV:=.v (.int .u8 (c.toNat:Int))
theorem xr (c:UInt8):GF prog 181 [EB c] [] (.v (.bool (small c))) []:=by
 unfold small;refine dT func181 ntmps181 ?_
 cases h:decide ((97:Int)<=(c.toNat:Int))
 all_goals
  exact ax
theorem xq (c:UInt8):GF prog 188 [EB c] [] (.v (.bool (eD c))) []:=by
 unfold eD;refine dT func188 ntmps188 ?_
 cases h:decide ((48:Int)<=(c.toNat:Int))
 all_goals
  exact ax
theorem Fh (c:UInt8):GF prog 180 [EB c] [] (.v (.bool (et c))) []:=by
 unfold et;have hs:=xr c;have hd:=xq c;generalize small c=b1 at *;generalize eD c=b2 at *;refine ai func180 ntmps180 ?_;refine lu [] hs ?_
 cases b1 with
 | true =>
  exact ax
 | false =>
  cases I:decide ((65:Int)<=(c.toNat:Int)) with
  | true =>
   cases F:decide ((c.toNat:Int)<=90) with
   | true =>
    exact ax
   | false =>
    refine G ?_;refine lu [] hd ?_
    cases b2 with
    | true =>
     exact ax
    | false =>
     exact ax
  | false =>
   refine G ?_;refine lu [] hd ?_
   cases b2 with
   | true =>
    exact ax
   | false =>
    exact ax
theorem pN (s t:ah) (a:Nat) (hs:s.length<=1152921504606846976) (ht:t.length<=1152921504606846976) (ha:a<=1152921504606846976) :
  GF prog 187 [.v (sv s),.v (ii (a:Nat)),.v (sv t)] [] (.v (.bool (bF s a t))) []:=by
 by_cases h:a+t.length<=s.length
 ·have h':decide (((a+t.length:Nat):Int)<=(s.length:Int))=true:=by simpa using by omega
  refine ai func187 ntmps187 ?_;refine bV ?_;unfold bF;rw [decide_eq_true h];exact ⟨rfl,rfl⟩
 ·have h':decide (((a+t.length:Nat):Int)<=(s.length:Int))=false:=by simpa using by omega
  refine ai func187 ntmps187 ?_;refine bV ?_;unfold bF;rw [decide_eq_false h];exact ⟨rfl,rfl⟩
theorem Pj (s:ah) (a:Nat) (hs:s.length<=1099511627776) (ha:a<=s.length) :
  GF prog 148 [.v (sv s),.v (ii (a:Nat))] [] (.tup [.v (ii ((skip s (s.length+1) a).1:Nat)),.v (ii (skip s (s.length+1) a).2)]) []:=by
 generalize hR:skip s (s.length+1) a=R;refine ai func148 ntmps148 ?_;refine GW.loop (fun x:Nat × Nat=>x.1) (fun x fr Γ=>fr=[.v (sv s),.v (ii (x.2:Nat)),U,U,U,U,U,U,U,U,U,U,U,U,U,U,U,U,U,U,U,U,U,U,U,U,U,U,U,U,U,U,U,U,U,U,U,U,U,U,U,U,U,U,U,U,U,U,U,U,U,U,U,U,U,U,U,U,U,U,U,U,U]/\Γ=[]/\x.2<=s.length/\s.length < x.1+x.2/\skip s x.1 x.2=R) (s.length+1,a) ?_ ?_
 ·exact ⟨_,_,Wk.aK av,rfl,rfl,ha,by simp;omega,hR⟩
 ·rintro ⟨f,a⟩ _ _ ⟨rfl,rfl,ha,hf,h⟩;simp only at ha hf h
  cases f with
  | zero=>omega
  | succ f =>
  rw [skip] at h
  cases hc:s[a]? with
  | none =>
   rw [hc] at h;simp only at h;subst h;have ko:s.length<=a:=py hc
   have hd:decide ((a:Int) < (s.length:Int))=false:=by simpa using ko
   refine dd ?_;exact r6
  | some c =>
   rw [hc] at h;simp only at h;have ar:a < s.length:=(bh hc).1
   have hd:decide ((a:Int) < (s.length:Int))=true:=by simpa using ar
   have hb:dU c=(((c.toNat:Int)==32) || ((c.toNat:Int)==9) || ((c.toNat:Int)==10) || ((c.toNat:Int)==13)):=rfl
   by_cases nV:dU c=true
   ·rw [ae nV] at h;rw [hb] at nV;have Ht:((c.toNat:Int)==32)=true\/(((c.toNat:Int)==32)=false/\((c.toNat:Int)==9)=true)\/(((c.toNat:Int)==32)=false/\((c.toNat:Int)==9)=false/\((c.toNat:Int)==10)=true) \/
      (((c.toNat:Int)==32)=false/\((c.toNat:Int)==9)=false/\((c.toNat:Int)==10)=false/\((c.toNat:Int)==13)=true):=by
     generalize ((c.toNat:Int)==32)=b1 at *;generalize ((c.toNat:Int)==9)=b2 at *;generalize ((c.toNat:Int)==10)=b3 at *;generalize ((c.toNat:Int)==13)=b4 at *;clear hb
     revert nV;cases b1 <;> cases b2 <;> cases b3 <;> cases b4 <;> simp
    clear hb nV
    rcases Ht with k1 | ⟨k1,k2⟩ | ⟨k1,k2,k3⟩ | ⟨k1,k2,k3,k4⟩
    all_goals
     refine dd ?_;exact ⟨(f,a+1),⟨_,_,Wk.aK av,rfl,rfl,by simp only;omega,by simp only;omega,h⟩,by simp⟩
   ·rw [ab nV] at h;rw [hb] at nV
    have Ht:((c.toNat:Int)==32)=false/\((c.toNat:Int)==9)=false/\((c.toNat:Int)==10)=false/\((c.toNat:Int)==13)=false:=by
     generalize ((c.toNat:Int)==32)=b1 at *;generalize ((c.toNat:Int)==9)=b2 at *;generalize ((c.toNat:Int)==10)=b3 at *;generalize ((c.toNat:Int)==13)=b4 at *;clear hb
     revert nV;cases b1 <;> cases b2 <;> cases b3 <;> cases b4 <;> simp
    clear hb nV;obtain ⟨k1,k2,k3,k4⟩:=Ht
    by_cases ot:bF s a [47,42]=true
    ·rw [ae ot] at h;have nV:=kc ot;have nV:a+2<=s.length:=nV
     have qy:(!bF s a [47,42])=false:=by rw [ot];rfl
     try simp only at h
     generalize he:fF s s.length (a+2)=e at h;refine G ?_;refine D [] (pN s [47,42] a ag aM ag) ?_;have NY:=si s s.length (a+2) ag ag;have vj:=tw s s.length (a+2) ag;rw [he] at NY vj;refine GW.S2 (fun fr Γ=>fr=[.v (sv s),.v (ii (a:Nat)),U,U,U,U,.v (ii (e:Nat)),U,U,U,U,U,U,U,U,U,U,U,U,U,U,U,U,U,U,U,U,U,U,U,U,U,U,U,U,U,U,U,U,U,U,U,U,U,U,U,U,U,U,U,U,U,U,U,U,U,U,U,U,U,U,U,U]/\Γ=[]) ?_ ?_
     ·refine GW.loop (fun x:Nat × Nat=>x.1) (fun x fr Γ=>fr=[.v (sv s),.v (ii (a:Nat)),U,U,U,U,.v (ii (x.2:Nat)),U,U,U,U,U,U,U,U,U,U,U,U,U,U,U,U,U,U,U,U,U,U,U,U,U,U,U,U,U,U,U,U,U,U,U,U,U,U,U,U,U,U,U,U,U,U,U,U,U,U,U,U,U,U,U,U]/\Γ=[]/\x.2<=s.length/\fF s x.1 x.2=e) (s.length,a+2) ?_ ?_
      ·exact ⟨_,_,Wk.aK av,rfl,rfl,by simp only;omega,he⟩
      ·rintro ⟨g,e'⟩ _ _ ⟨rfl,rfl,hle,uu⟩;simp only at hle uu
       by_cases hstop:e' < s.length
       ·have fw:decide ((e':Int) < (s.length:Int))=true:=by simpa using hstop
        cases qx:bF s e' [42,47] with
        | true =>
         have ZQ:(!bF s e' [42,47])=false:=by rw [qx];rfl
         have x6:e'=e:=by
          cases g with
          | zero=>exact uu
          | succ g=>rw [fF,ab (by rw [qx];simp)] at uu;exact uu
         subst x6;refine G ?_;refine D [] (pN s [42,47] e' ag aM ag) ?_;refine jQ ?_;exact jb
        | false =>
         have ZQ:(!bF s e' [42,47])=true:=by rw [qx];rfl
         cases g with
         | zero=>exact absurd ⟨by rw [<-uu];exact hstop,by rw [<-uu];exact qx⟩ NY
         | succ g =>
          rw [fF,ae ⟨hstop,qx⟩] at uu;refine G ?_;refine D [] (pN s [42,47] e' ag aM ag) ?_;exact ⟨(g,e'+1),⟨_,_,Wk.aK av,rfl,rfl,hstop,uu⟩,by simp⟩
       ·have fw:decide ((e':Int) < (s.length:Int))=false:=by simp;omega
        have x6:e'=e:=by
         cases g with
         | zero=>exact uu
         | succ g=>rw [fF,ab (fun hh=>hstop hh.1)] at uu;exact uu
        subst x6;refine dd ?_;exact jb
     ·rintro _ _ ⟨rfl,rfl⟩
      by_cases hle:s.length<=e
      ·rw [ae hle] at h
       have Z7:decide ((s.length:Int)<=(e:Int))=true:=by simpa using hle
       subst h;exact r6
      ·rw [ab hle] at h
       have Z7:decide ((s.length:Int)<=(e:Int))=false:=by simp;omega
       have qx:bF s e [42,47]=true:=by
        cases qx:bF s e [42,47] with
        | true=>rfl
        | false=>exact absurd ⟨by omega,qx⟩ NY
       have qx:=kc qx;have qx:e+2<=s.length:=qx;refine dd ?_;exact ⟨(f,e+2),⟨_,_,Wk.aK av,rfl,rfl,qx,by simp only;omega,h⟩,by simp⟩
    ·rw [ab ot] at h
     have qy:(!bF s a [47,42])=true:=by simpa using ot
     subst h;refine G ?_;refine D [] (pN s [47,42] a ag aM ag) ?_;exact nj
theorem xt:GF prog 145 [] [] (strs words) []:=by
 refine ai func145 ntmps145 ?_;refine b6 ?_;exact ax
theorem LQ:GF prog 190 [] [] (strs bQ) []:=by
 refine ai func190 ntmps190 ?_;refine b6 ?_;exact ax
theorem OE (s:ah) (hs:s.length<=1099511627776):GF prog 144 [.v (sv s)] [] (.v (.bool (word s))) []:=by
 refine ai func144 ntmps144 ?_;refine GW.loop (fun a:Nat=>s.length - a) (fun a fr Γ=>fr=[.v (sv s),U,U,.v (ii (a:Nat)),U,U,U,U,U,U,U,U,U,U,U,U,U,U,U,U,U,U]/\Γ=[]/\a<=s.length/\(s.take a).all et=true) 0 ?_ ?_
 ·exact ⟨_,_,Wk.aK av,rfl,rfl,aX _,rfl⟩
 ·rintro a _ _ ⟨rfl,rfl,ha,aY⟩
  cases hc:s[a]? with
  | some c =>
   have ar:a < s.length:=(bh hc).1
   have hd:decide ((a:Int) < (s.length:Int))=true:=by simpa using ar
   have bB:(s.take (a+1)).all et=((s.take a).all et&&et c):=by
    rw [cq,hc,List.all_append];simp
   have hp:=Fh c
   cases hn:et c with
   | true =>
    rw [hn] at hp;refine G ?_;refine D [] hp ?_;exact ⟨a+1,⟨_,_,Wk.aK av,rfl,rfl,ar,by rw [bB,aY,hn];rfl⟩,by omega⟩
   | false =>
    rw [hn] at hp;refine G ?_;refine D [] hp ?_;refine bV ?_;refine ⟨?_,rfl⟩
    have hw:word s=false:=by
     have:s.all et=false:=by
      rw [List.all_eq_false];exact ⟨c,bm hc,by rw [hn];decide⟩
     unfold word;rw [this];rfl
    rw [hw];rfl
  | none =>
   have ko:s.length<=a:=py hc
   have hd:decide ((a:Int) < (s.length:Int))=false:=by simpa using ko
   have aY:s.all et=true:=by rw [jS ko] at aY;exact aY
   cases s with
   | nil =>
    refine dd ?_;exact ax
   | cons c r =>
    have hr:(c::r)[0]?=some c:=rfl;refine dd ?_;refine G ?_;refine D [] (xr c) ?_;refine bV ?_;refine ⟨?_,rfl⟩;unfold word;rw [aY];rfl
theorem eH (s:ah) (hs:s.length<=1099511627776):GF prog 108 [.v (sv s)] [] (.v (.bool (bx s))) []:=by
 have hw:=OE s hs;unfold bx;generalize word s=b at *;refine ai func108 ntmps108 ?_;refine lu [] hw ?_
 cases b with
 | false =>
  exact ax
 | true =>
  by_cases o7:s.length<=12
  ·have ZL:decide ((s.length:Int)<=12)=true:=by simpa using by omega
   refine G ?_;refine D [] xt ?_;refine D [] (jT words s aM) ?_;refine bV ?_;rw [decide_eq_true o7];exact ⟨rfl,rfl⟩
  ·have ZL:decide ((s.length:Int)<=12)=false:=by simpa using by omega
   refine G ?_;refine bV ?_;rw [decide_eq_false o7];exact ⟨rfl,rfl⟩
theorem IZ (s:ah) (a:Nat) (hs:s.length<=1099511627776) (ha:a<=s.length) :
  GF prog 189 [.v (sv s),.v (ii (a:Nat))] [] (.tup [.agg (dv ⟨1,(number s (s.length+1) 0 a).1,[],a⟩),.v (ii ((number s (s.length+1) 0 a).2:Nat))]) []:=by
 generalize hR:number s (s.length+1) 0 a=R;generalize ha0:a=a0 at *;refine ai func189 ntmps189 ?_;refine GW.loop (fun x:Nat × Int × Nat=>x.1) (fun x fr Γ=>fr=[.v (sv s),.v (ii (x.2.2:Nat)),U,U,.loc 0 0,U,.loc 1 0,U,U,U,U,U,U,U,U,U,U,U,U,U,U,U,U,U,U,U,U,U,U,U,U,U,U,U,U,U]/\Γ=[.box 166 [.v (ii 0),.v (ii 0),.v (sv []),.v (ii 0)],.box 166 (dv ⟨1,x.2.1,[],a0⟩)]/\x.2.2<=s.length/\s.length < x.1+x.2.2/\number s x.1 x.2.1 x.2.2=R/\0<=x.2.1/\x.2.1<=21474836479) (s.length+1,0,a0) ?_ ?_
 ·exact ⟨_,_,Wk.aK av,rfl,rfl,by simp only;omega,by simp only;omega,by rw [<-hR],by simp,by simp⟩
 ·rintro ⟨f,n,a⟩ _ _ ⟨rfl,rfl,ha,hf,h,EZ,Hg⟩;simp only at ha hf h EZ Hg
  cases f with
  | zero=>omega
  | succ f =>
  rw [number] at h
  cases hc:s[a]? with
  | none =>
   rw [hc] at h;simp only at h;subst h;have ko:s.length<=a:=py hc
   have hd:decide ((a:Int) < (s.length:Int))=false:=by simpa using ko
   refine dd ?_;refine G ?_;refine qo ?_;exact ⟨rfl,rfl⟩
  | some c =>
   rw [hc] at h;simp only at h;have ar:a < s.length:=(bh hc).1
   have hd:decide ((a:Int) < (s.length:Int))=true:=by simpa using ar
   have nw:=xq c
   cases hdc:eD c with
   | false =>
    rw [hdc] at nw;rw [ab (by rw [hdc];simp)] at h;subst h;refine G ?_;refine D [] nw ?_;refine jQ ?_;refine G ?_;refine qo ?_;exact ⟨rfl,rfl⟩
   | true =>
    rw [hdc] at nw;rw [ae hdc] at h
    have yR:(48:Int)<=(c.toNat:Int)/\(c.toNat:Int)<=57:=by
     simp only [eD,aE,decide_eq_true_eq] at hdc;exact hdc
    by_cases hn:n<=2147483647
    ·rw [ae hn] at h
     have CH:decide (n<=2147483647)=true:=by simpa using hn
     refine G ?_;refine D [] nw ?_;refine aJ (aD 0 10 (.a 10 .nil)) ?_;refine bj ?_;exact ⟨(f,n * 10+((c.toNat:Int) - 48),a+1),⟨_,_,Wk.aK av,rfl,rfl,ar,by simp only;omega,h,by simp only;omega,by simp only;omega⟩,by simp⟩
    ·rw [ab hn] at h
     have CH:decide (n<=2147483647)=false:=by simpa using hn
     refine G ?_;refine D [] nw ?_;exact ⟨(f,n,a+1),⟨_,_,Wk.aK av,rfl,rfl,ar,by simp only;omega,h,EZ,Hg⟩,by simp⟩
theorem Nz {xs:List ah} {p:ah->Bool} {k:Nat} {x:ah} (h:(xs.take k).find? p=none) (hx:xs[k]?=some x) (hp:p x=true):xs.find? p=some x:=by
 have ar:=(bh hx).1
 have:xs=xs.take k++x::xs.drop (k+1):=by
  have I:=List.take_append_drop k xs;rw [nl ar] at I;rw [(bh hx).2] at I;exact I.symm
 rw [this,List.find?_append,h];simp [List.find?_cons,hp]
theorem Ny {xs:List ah} {p:ah->Bool} {k:Nat} {x:ah} (h:(xs.take k).find? p=none) (hx:xs[k]?=some x) (hp:p x=false):(xs.take (k+1)).find? p=none:=by
 rw [cq,hx,List.find?_append,h];simp [List.find?_cons,hp]
theorem Jd:∀ x∈bQ,x.length<=1152921504606846976:=by decide
theorem QO (s:ah) (a:Nat) (c:UInt8) (hs:s.length<=1099511627776) (hc:s[a]?=some c) :
  GF prog 149 [.v (sv s),.v (ii (a:Nat))] [] (.tup [.agg (dv (jC s a c).1),.v (ii ((jC s a c).2:Nat))]) []:=by
 have ar:a < s.length:=(bh hc).1;have nw:=xq c;have jK:=xr c;unfold jC
 cases hdc:eD c with
 | true =>
  rw [hdc] at nw;rw [ae rfl];refine ai func149 ntmps149 ?_;refine D [] nw ?_;refine D [] (IZ s a hs ag) ?_;refine qo ?_;exact ⟨rfl,rfl⟩
 | false =>
  rw [hdc] at nw;rw [ab aM]
  cases hsc:small c with
  | true =>
   rw [hsc] at jK;rw [ae rfl];have Y7:=qD s et (s.length+1) a ag ag;have Zg:(s.take (fc s a)).drop a=fO s a:=rfl;have VW:run s et (s.length+1) a=fc s a:=rfl;rw [VW] at Y7;generalize he:fc s a=e at *;generalize hw:fO s a=w at *;have hw:=Zg;have he:=VW;refine ai func149 ntmps149 ?_;refine D [] nw ?_;refine D [] jK ?_;refine GW.S2 (fun fr Γ=>fr=[.v (sv s),.v (ii (a:Nat)),U,U,.loc 0 0,U,.v (ii (e:Nat)),U,U,U,U,U,U,U,U,U,U,U,U,U,U,U,U,U,U,U,U,U,U,U,U,U,U,U,U,U,U,U,U,U,U,U,U,U,U,U,U,U,U,U,U,U,U,U,U,U,U,U,U,U,U,U,U,U,U,U,U,U,U]/\Γ=[.box 166 [.v (ii 0),.v (ii 0),.v (sv []),.v (ii 0)]]) ?_ ?_
   ·refine GW.loop (fun x:Nat × Nat=>x.1) (fun x fr Γ=>fr=[.v (sv s),.v (ii (a:Nat)),U,U,.loc 0 0,U,.v (ii (x.2:Nat)),U,U,U,U,U,U,U,U,U,U,U,U,U,U,U,U,U,U,U,U,U,U,U,U,U,U,U,U,U,U,U,U,U,U,U,U,U,U,U,U,U,U,U,U,U,U,U,U,U,U,U,U,U,U,U,U,U,U,U,U,U,U]/\Γ=[.box 166 [.v (ii 0),.v (ii 0),.v (sv []),.v (ii 0)]]/\x.2<=s.length/\s.length < x.1+x.2/\run s et x.1 x.2=e) (s.length+1,a) ?_ ?_
    ·exact ⟨_,_,Wk.aK av,rfl,rfl,by simp only;omega,by simp only;omega,he⟩
    ·rintro ⟨f,b⟩ _ _ ⟨rfl,rfl,hb,hf,h⟩;simp only at hb hf h
     cases f with
     | zero=>omega
     | succ f =>
     rw [run] at h
     cases wj:s[b]? with
     | none =>
      rw [wj] at h;simp only at h;subst h;have ko:s.length<=b:=py wj
      have hd:decide ((b:Int) < (s.length:Int))=false:=by simpa using ko
      refine dd ?_;exact jb
     | some cb =>
      rw [wj] at h;simp only at h;have qS:b < s.length:=(bh wj).1
      have hd:decide ((b:Int) < (s.length:Int))=true:=by simpa using qS
      have hp:=Fh cb
      cases hn:et cb with
      | true =>
       rw [hn] at hp;rw [ae hn] at h;refine G ?_;refine D [] hp ?_;exact ⟨(f,b+1),⟨_,_,Wk.aK av,rfl,rfl,qS,by simp only;omega,h⟩,by simp⟩
      | false =>
       rw [hn] at hp;rw [ab (by rw [hn];decide)] at h;subst h;refine G ?_;refine D [] hp ?_;refine jQ ?_;exact jb
   ·rintro _ _ ⟨rfl,rfl⟩;obtain ⟨_,I,F⟩:=Y7;refine G ?_;rw [hw];have LB:=jT words w aM
    cases hcw:words.contains w with
    | true =>
     rw [hcw] at LB;refine aJ (.q 1 (.q 2 (.a 0 (.a 3 .nil)))) ?_;refine au ?_;refine az [] xt ?_;refine az [] LB ?_;refine G ?_;refine qo ?_;rw [ae rfl];exact ⟨rfl,rfl⟩
    | false =>
     rw [hcw] at LB;refine aJ (.q 1 (.q 2 (.a 0 (.a 3 .nil)))) ?_;refine au ?_;refine az [] xt ?_;refine az [] LB ?_;refine G ?_;refine qo ?_;rw [ab aM];exact ⟨rfl,rfl⟩
  | false =>
   rw [hsc] at jK;rw [ab aM];refine ai func149 ntmps149 ?_;refine D [] nw ?_;refine D [] jK ?_;refine D [] LQ ?_;refine GW.range (bQ.map fun s=>[GV.v (sv s)]).length (fun k fr Γ=>fr=[.v (sv s),.v (ii (a:Nat)),U,U,.loc 0 0,U,U,U,U,U,U,U,U,U,U,U,U,U,U,U,U,U,U,U,U,U,U,U,U,U,U,U,U,U,U,U,U,U,U,U,U,U,U,U,U,U,U,U,U,strs bQ,.v (ii ((bQ.map fun s=>[GV.v (sv s)]).length:Int)),.v (ii (k:Nat)),U,U,U,U,U,U,U,U,U,U,U,U,U,U,U,U,U]/\Γ=[.box 166 [.v (ii 0),.v (ii 0),.v (sv []),.v (ii 0)]]/\(bQ.take k).find? (bF s a)=none) ?_ aM ?_ ?_ ?_
   ·exact jW
   ·exact ig
   ·rintro k _ _ hk ⟨rfl,rfl,hf⟩
    have hk:k < bQ.length:=by simpa using hk
    have hx:bQ[k]?=some bQ[k]:=by simp [hk]
    have hr:(bQ.map fun s=>[GV.v (sv s)])[k]?=some [.v (sv bQ[k])]:=by simp [hk]
    have AH:=Jd _ (getElem_mem hk);generalize bQ[k]=x at *;have ot:=pN s x a ag AH ag
    cases hb:bF s a x with
    | true =>
     rw [hb] at ot;have N3:=Nz hf hx hb;refine G ?_;refine D [] ot ?_;refine qo ?_;rw [N3];exact ⟨rfl,rfl⟩
    | false =>
     rw [hb] at ot;refine G ?_;refine D [] ot ?_;exact ⟨rfl,rfl,_,_,Wk.aK av,rfl,rfl,Ny hf hx hb⟩
   ·rintro _ _ ⟨rfl,rfl,hf⟩
    have hf:bQ.find? (bF s a)=none:=by
     rw [jS (by simp)] at hf;exact hf
    refine G ?_;refine qo ?_;rw [hf];exact ⟨rfl,rfl⟩
theorem RJ {s:ah} {a:Nat} {c:UInt8} (hc:s[a]?=some c):a<=(jC s a c).2/\(jC s a c).2<=s.length:=by
 have ar:a < s.length:=(bh hc).1;unfold jC;split
 ·exact (xE s (s.length+1) 0 a ag ag).2
 ·split
  ·exact (qD s et (s.length+1) a ag ag).2
  ·split
   ·rename_i x hx;have:=kc (List.find?_some hx);exact ⟨Nat.le_add_right _ _,this⟩
   ·exact ⟨aH _,by omega⟩
theorem OH (s:ah) (l:List Tok) (hs:s.length<=1000000000000) (h:Go.Sp.jr s=some l) :
  GF prog 112 [.v (sv s)] [] (Go.Xg.jr l) []:=by
 rw [Go.Sp.jr] at h;have hsk:=Pj s 0 ag (aX _);have rD:=zX s (s.length+1) 0 (aX _);generalize hS:skip s (s.length+1) 0=R at *;refine ai func112 ntmps112 ?_;refine oL ?_;refine G ?_;refine D [] hsk ?_;refine GW.loop (fun x:Nat × Nat × List Tok=>x.1) (fun x fr Γ=>∃ n rows,fr=[.v (sv s),U,U,.vec 0 n,.v (ii (x.2.1:Nat)),U,U,U,U,U,U,U,U,U,U,U,U,U,U,U,U,U,U,U,U,U,U,U,U,U,U,U,U,U,U]/\Γ=[.vec 166 4 0 rows]/\rows.length=n/\rows=x.2.2.map dv/\n+x.1<=s.length+2/\x.2.1<=s.length/\rn s x.1 x.2.1 x.2.2=some l) (s.length+2,R.1,[]) ?_ ?_
 ·exact ⟨_,_,Wk.aK av,0,[],rfl,rfl,rfl,rfl,by simp,rD.2,h⟩
 ·rintro ⟨f,a,acc⟩ _ _ ⟨n,rows,rfl,rfl,hn,bG,sE,ha,h⟩;simp only at bG sE ha h
  cases f with
  | zero=>simp [rn] at h
  | succ f =>
  rw [rn] at h
  cases hc:s[a]? with
  | none =>
   rw [hc] at h;simp only at h;cases h;have ko:s.length<=a:=py hc
   have hd:decide ((a:Int) < (s.length:Int))=false:=by simpa using ko
   subst bG;refine dd ?_;refine G ?_;refine GW.wk (Wk.ki (t:=2) rfl rfl rfl hn) ?_;exact ak
  | some c =>
   rw [hc] at h;simp only at h;have ar:a < s.length:=(bh hc).1
   have hd:decide ((a:Int) < (s.length:Int))=true:=by simpa using ar
   have oy:=RJ hc;have iD:=QO s a c ag hc;generalize jC s a c=tk at *;have aal:=Pj s tk.2 ag oy.2;have Wh:=zX s (s.length+1) tk.2 oy.2;generalize skip s (s.length+1) tk.2=R2 at *;refine G ?_;refine D [] iD ?_;refine fG ?_;refine G ?_;refine D [] aal ?_;exact ⟨(f,R2.1,acc++[tk.1]),⟨_,_,(Wk.cut (n:=1) (fi rfl) rfl).trans (Wk.aK av),_,_,rfl,rfl,by simp [hn],by rw [o0,bG];rfl,by simp only;omega,by simp only;omega,h⟩,by simp⟩
structure F8 (f:Nat):Prop where
 expr:∀ d p t q,p.ok->d+f<=4611686018427387904->mE f (.expr d) p=some (t,q)->GF prog 194 [.loc 0 0,.v (ii (d:Nat))] [cn p] (.agg (cT t)) [cn q]
 level:∀ k d p t q,p.ok->k<=9->d+f<=4611686018427387904->mE f (.level k d) p=some (t,q)->GF prog 228 [.loc 0 0,.v (ii (k:Nat)),.v (ii (d:Nat))] [cn p] (.agg (cT t)) [cn q]
 operand:∀ d p t q,p.ok->d+f<=4611686018427387904->mE f (.operand d) p=some (t,q)->GF prog 244 [.loc 0 0,.v (ii (d:Nat))] [cn p] (.agg (cT t)) [cn q]
 named:∀ a s d p t q,p.ok->d+f<=4611686018427387904->mE f (.named a s d) p=some (t,q)->GF prog 256 [.loc 0 0,.v (ii a),.v (sv s),.v (ii (d:Nat))] [cn p] (.agg (cT t)) [cn q]
 list:∀ d p l q,p.ok->d+f<=4611686018427387904->mL f d p=some (l,q)->GF prog 264 [.loc 0 0,.v (ii (d:Nat))] [cn p] (.sl 6 (aU l)) [cn q]
theorem Vp {f:Nat} (C:F8 f) (d:Nat) (p:RS) (t:T) (q:RS) (hp:p.ok) (hd:d+(f+1)<=4611686018427387904) (h:mE (f+1) (.expr d) p=some (t,q)) :
  GF prog 194 [.loc 0 0,.v (ii (d:Nat))] [cn p] (.agg (cT t)) [cn q]:=by
 rw [mE] at h;refine ai func194 ntmps194 ?_;refine D [0] (vq p d hp) ?_;refine D [0] (C.level 0 d _ t q ((oY hp d).ok hp) ag ag h) ?_;exact dF
theorem Ki {k:Nat} (hk:k < 9):(levels.map fun l=>[strs l])[k]?=some [strs (levels.getD k [])]:=by
 have:k < levels.length:=hk;rw [aV,eF this,List.getD_eq_getElem?_getD,eF this];rfl
theorem DS:∀ k,k < 9->(levels.getD k []).length<=1099511627776:=by decide
abbrev zT:List GV:=[.v (ii 0),.v (ii 0),.v (ii 0),.v (sv []),.v (.slice none 0 0),.v (.slice none 0 0)]
theorem Uk {f:Nat} (C:∀ f',f'<=f->F8 f') (k d:Nat) (p:RS) (t:T) (q:RS) (hp:p.ok) (hk:k<=9) (hd:d+(f+1)<=4611686018427387904) (h:mE (f+1) (.level k d) p=some (t,q)) :
  GF prog 228 [.loc 0 0,.v (ii (k:Nat)),.v (ii (d:Nat))] [cn p] (.agg (cT t)) [cn q]:=by
 rw [mE] at h
 by_cases wo:k=9
 ·subst wo;rw [ae rfl] at h;refine ai func228 ntmps228 ?_;refine D [] kr ?_;refine D [0] ((C f (aH _)).operand (d+1) p t q hp ag h) ?_;exact dF
 ·rw [ab wo] at h
  have Z3:((k:Int)==9)=false:=by simp;omega
  cases he:mE f (.level (k+1) d) p with
  | none=>rw [he] at h;cases h
  | some r =>
   obtain ⟨out,p1⟩:=r;rw [he] at h;simp only at h;have lH:=((vt f).1 _ _ _ _ hp he).ok hp;refine ai func228 ntmps228 ?_;refine D [] kr ?_;refine D [0] ((C f (aH _)).level (k+1) d p out p1 hp ag ag he) ?_;refine GW.loop (fun x:Nat × T × RS=>x.1) (fun x fr Γ=>fr=[.loc 0 0,.v (ii (k:Nat)),.v (ii (d:Nat)),U,U,U,.loc 1 0,.loc 2 0,U,U,U,U,U,U,U,U,U,U,U,U,U,U,U,U,U,U,U,U,U,U,U,U,U,U,U,U,U,U,U,U,U,U,U,U,U,U,U,U,U,U,U,U,U,U,U,U,U,U,U,U,U,U,U,U,U,U]/\Γ=[cn x.2.2,.box 75 zT,.box 75 (cT x.2.1)]/\x.2.2.ok/\x.1<=f/\mE x.1 (.loop k d x.2.1) x.2.2=some (t,q)) (f,out,p1) ?_ ?_
   ·exact ⟨_,_,Wk.aK av,rfl,rfl,lH,aH _,h⟩
   ·rintro ⟨g,out,p⟩ _ _ ⟨rfl,rfl,hp,il,h⟩;simp only at hp il h
    cases g with
    | zero=>simp [mE] at h
    | succ g =>
    rw [mE] at h
    have hk:k < 9:=by omega
    by_cases hc:p.code=0
    ·have dK:(p.code==0)=true:=by simpa using hc
     have Oa:=Ki hk
     by_cases hit:(levels.getD k []).contains (p.sign 0)=true
     ·rw [ae ⟨hc,hit⟩] at h
      cases ht:p.l[p.i]? with
      | none=>rw [ht] at h;cases h
      | some tk =>
       rw [ht] at h;simp only at h;have ar:=(bh ht).1;have hr:=lq ht;have cX:=hp.2
       cases hb:mE g (.level (k+1) d) p.next with
       | none=>rw [hb] at h;cases h
       | some r =>
        obtain ⟨b,p2⟩:=r;rw [hb] at h;simp only at h;have dA:=(dO ar).ok hp;have ed:=((vt g).1 _ _ _ _ dA hb).ok dA;refine G ?_;refine aJ (aD 0 6 (.q 7 (.q 10 (.a 6 (.q 8 (.q 9 (.a 11 (.a 12 (.q 13 .nil))))))))) ?_;refine au ?_;refine bL [] kr ?_;refine bL [0] (dr p 0 hp aM) ?_;refine bL [] (jT (levels.getD k []) (p.sign 0) (DS k hk)) ?_;refine G ?_;refine aJ (aD 0 10 (.a 10 (.a 11 .nil))) ?_;refine bj ?_;refine aJ (aD 0 9 (.a 9 (.a 10 (.a 11 (.a 12 .nil))))) ?_;refine au ?_;refine az [0] ((C g ag).level (k+1) d p.next b p2 dA ag ag hb) ?_;refine eZ ?_;refine au ?_;refine Cd [] (gZ 6 tk.at_ tk.s [out,b] _ oZ) ?_;refine Iu ?_;refine bj ?_;exact ⟨(g,one 6 tk.at_ tk.s [out,b],p2),⟨_,_,(Wk.cut (n:=3) (fi rfl) rfl).trans (Wk.aK av),rfl,rfl,ed,by omega,h⟩,by simp⟩
     ·have hit:(levels.getD k []).contains (p.sign 0)=false:=by simpa using hit
      rw [ab (by rw [hit];simp)] at h
      obtain ⟨rfl,rfl⟩:out=t/\p=q:=by simpa using h
      refine G ?_;refine aJ (aD 0 6 (.q 7 (.q 10 (.a 6 (.q 8 (.q 9 (.a 11 (.a 12 (.q 13 .nil))))))))) ?_;refine au ?_;refine bL [] kr ?_;refine bL [0] (dr p 0 hp aM) ?_;refine bL [] (jT (levels.getD k []) (p.sign 0) (DS k hk)) ?_;refine dd ?_;exact qn
    ·have dK:(p.code==0)=false:=by simpa using hc
     rw [ab (fun hh=>hc hh.1)] at h
     obtain ⟨rfl,rfl⟩:out=t/\p=q:=by simpa using h
     refine G ?_;refine aJ (aD 0 6 (.q 7 (.q 10 (.a 6 (.q 8 (.q 9 (.a 11 (.a 12 (.q 13 .nil))))))))) ?_;refine bj ?_;refine jQ ?_;exact qn
theorem Up {f:Nat} (C:F8 f) (a:Int) (s:ah) (d:Nat) (p:RS) (t:T) (q:RS) (hp:p.ok) (hd:d+(f+1)<=4611686018427387904) (h:mE (f+1) (.named a s d) p=some (t,q)) :
  GF prog 256 [.loc 0 0,.v (ii a),.v (sv s),.v (ii (d:Nat))] [cn p] (.agg (cT t)) [cn q]:=by
 rw [mE] at h
 by_cases I:p.sign 0=[91]
 ·rw [ae I] at h
  have c7:(p.sign 0==[91])=true:=by simp [I]
  have ar:=(gw I aM).1;have cX:=hp.2;have dA:=(jP I aM).ok hp
  cases he:mE f (.expr (d+1)) p.next with
  | none=>rw [he] at h;cases h
  | some r =>
   obtain ⟨b,p1⟩:=r;rw [he] at h;cases h;have lH:=((vt f).1 _ _ _ _ dA he).ok dA;refine ai func256 ntmps256 ?_;refine D [0] (dr p 0 hp aM) ?_;refine D [0] (C.expr (d+1) p.next b p1 dA ag he) ?_;refine D [0] (dq p1 [93] lH aM) ?_;refine b6 ?_;refine G ?_;refine D [] (gZ 3 a s [b] _ oZ) ?_;exact dF
 ·rw [ab I] at h
  have c7:(p.sign 0==[91])=false:=by simpa using I
  by_cases F:p.sign 0=[40]
  ·rw [ae F] at h
   have rz:(p.sign 0==[40])=true:=by simp [F]
   have ar:=(gw F aM).1;have cX:=hp.2;have dA:=(jP F aM).ok hp
   cases he:mL f (d+1) p.next with
   | none=>rw [he] at h;cases h
   | some r =>
    obtain ⟨l,p1⟩:=r;rw [he] at h;cases h;refine ai func256 ntmps256 ?_;refine D [0] (dr p 0 hp aM) ?_;refine D [0] (C.list (d+1) p.next l q dA ag he) ?_;refine D [] (gZ 4 a s l _ rfl) ?_;exact dF
  ·rw [ab F] at h
   have rz:(p.sign 0==[40])=false:=by simpa using F
   cases h;refine ai func256 ntmps256 ?_;refine D [0] (dr p 0 hp aM) ?_;refine D [] (gZ 2 a s [] [] rfl) ?_;exact dF
theorem aW (l:List T):(aU l).length=l.length:=by
 induction l with
 | nil=>rfl
 | cons a l ih=>simp [aU,ih]
theorem yo (l:List T) (a:T):aU (l++[a])=aU l++[cT a]:=by
 induction l with
 | nil=>simp [aU,v7]
 | cons b l ih=>simp [aU,ih]
theorem WC {f:Nat} (C:∀ f',f'<=f->F8 f') (d:Nat) (p:RS) (l:List T) (q:RS) (hp:p.ok) (hd:d+(f+1)<=4611686018427387904) (h:mL (f+1) d p=some (l,q)) :
  GF prog 264 [.loc 0 0,.v (ii (d:Nat))] [cn p] (.sl 6 (aU l)) [cn q]:=by
 rw [mL] at h
 by_cases I:p.sign 0=[41]
 ·rw [ae I] at h
  have c7:(!(p.sign 0==[41]))=false:=by simp [I]
  cases h;refine ai func264 ntmps264 ?_;refine oL ?_;refine G ?_;refine D [0] (dr p 0 hp aM) ?_;refine D [0] (dq p [41] hp aM) ?_;refine GW.wk (Wk.ki (t:=4) rfl rfl rfl rfl) ?_;exact ak
 ·rw [ab I] at h
  have c7:(!(p.sign 0==[41]))=true:=by simpa using I
  cases he:mE f (.expr d) p with
  | none=>rw [he] at h;cases h
  | some r =>
   obtain ⟨a,p1⟩:=r;rw [he] at h;simp only at h;have lH:=((vt f).1 _ _ _ _ hp he).ok hp;refine ai func264 ntmps264 ?_;refine oL ?_;refine G ?_;refine D [0] (dr p 0 hp aM) ?_;refine D [0] ((C f (aH _)).expr d p a p1 hp ag he) ?_;refine fG ?_;refine G ?_;refine GW.loop (fun x:Nat × List T × RS=>x.1) (fun x fr Γ=>∃ n rows,fr=[.loc 0 0,.v (ii (d:Nat)),U,U,U,.vec 1 n,U,U,U,U,U,U,U,U,U,U,U,U,U,U,U,U,U,U,U,U,U,U,U,U,U,U,U,U,U]/\Γ=[cn x.2.2,.vec 75 6 0 rows]/\rows.length=n/\rows=aU x.2.1/\n<=x.2.2.i+1/\x.2.2.ok/\x.1<=f/\uM x.1 d x.2.1 x.2.2=some (l,q)) (f,[a],p1) ?_ ?_
   ·exact ⟨_,_,Wk.aK av,_,_,rfl,rfl,rfl,(by simp only [aU,v7];rfl),(by show 1<=p1.i+1;omega),lH,aH _,h⟩
   ·rintro ⟨g,acc,p⟩ _ _ ⟨n,rows,rfl,rfl,hn,bG,V3,hp,il,h⟩;simp only at bG V3 hp il h
    cases g with
    | zero=>simp [uM] at h
    | succ g =>
    rw [uM] at h;have cX:=hp.2;have E8:=hp.1
    by_cases F:p.sign 0=[44]
    ·rw [ae F] at h
     have rz:(p.sign 0==[44])=true:=by simp [F]
     have ar:=(gw F aM).1;have dA:=(jP F aM).ok hp
     cases hb:mE g (.expr d) p.next with
     | none=>rw [hb] at h;cases h
     | some r =>
      obtain ⟨b,p2⟩:=r;rw [hb] at h;simp only at h;have SP:=(vt g).1 _ _ _ _ dA hb;have ed:=SP.ok dA;have td:p.i+1<=p2.i:=SP.2.2.2;refine G ?_;refine D [0] (dr p 0 hp aM) ?_;refine D [0] ((C g ag).expr d p.next b p2 dA ag hb) ?_;refine fG ?_;refine G ?_;exact ⟨(g,acc++[b],p2),⟨_,_,Wk.aK av,_,_,rfl,rfl,by simp [hn],by rw [yo,bG],by simp only;omega,ed,by simp only;omega,h⟩,by simp⟩
    ·rw [ab F] at h
     have rz:(p.sign 0==[44])=false:=by simpa using F
     obtain ⟨rfl,rfl⟩:acc=l/\p.aP [41]=q:=by simpa using h
     subst bG;refine G ?_;refine D [0] (dr p 0 hp aM) ?_;refine jQ ?_;refine G ?_;refine D [0] (dq p [41] hp aM) ?_;refine GW.wk (Wk.ki (t:=4) rfl rfl rfl hn) ?_;exact ak
theorem O3 {f:Nat} (C:F8 f) (d:Nat) (p:RS) (t:T) (q:RS) (hp:p.ok) (hd:d+(f+1)<=4611686018427387904) (h:mE (f+1) (.operand d) p=some (t,q)) :
  GF prog 244 [.loc 0 0,.v (ii (d:Nat))] [cn p] (.agg (cT t)) [cn q]:=by
 rw [mE] at h;have lI:=(oY hp d).ok hp;have xi:=vq p d hp;generalize p.deep d=p1 at *
 try simp only at h
 obtain ⟨E8,cX⟩:=id lI
 by_cases hc:p1.code=0
 ·rw [ae hc] at h
  have dK:(p1.code != 0)=false:=by simpa using hc
  cases ht:p1.l[p1.i]? with
  | none =>
   rw [ht] at h;cases h;have ko:p1.l.length<=p1.i:=py ht
   have ZZ:decide (((p1.l.map dv).length:Int)<=(p1.i:Int))=true:=by simp;omega
   refine ai func244 ntmps244 ?_;refine D [0] xi ?_;refine aJ (aD 0 17 .nil) ?_;refine bj ?_;refine D [0] (lN p1 lI) ?_;refine D [0] (mN p1 7 p1.place) ?_;refine r8 ?_;exact ⟨_,jR,rfl,rfl⟩
  | some tk =>
   rw [ht] at h;simp only at h;have ar:p1.i < p1.l.length:=(bh ht).1
   have ZZ:decide (((p1.l.map dv).length:Int)<=(p1.i:Int))=false:=by simp;omega
   have hr:=lq ht;have dA:=(dO ar).ok lI;refine ai func244 ntmps244 ?_;refine D [0] xi ?_;refine aJ (aD 0 17 .nil) ?_;refine bj ?_;refine aJ (aD 0 10 (.a 10 (.a 11 .nil))) ?_;refine bj ?_
   by_cases k1:tk.kind=1
   ·rw [ae k1] at h;cases h
    have k1':(tk.kind==1)=true:=by simpa using k1
    refine G ?_;refine r8 ?_;exact ⟨_,jR,rfl,rfl⟩
   ·rw [ab k1] at h
    have k1':(tk.kind==1)=false:=by simpa using k1
    by_cases k2:tk.kind=2
    ·rw [ae k2] at h
     have k2':(tk.kind==2)=true:=by simpa using k2
     refine G ?_;refine D [0] (yY p1 lI) ?_;refine D [0] (C.named tk.at_ p1.name.1 d p1.name.2 t q ((rZ lI).ok lI) ag h) ?_;exact dF
    ·rw [ab k2] at h
     have k2':(tk.kind==2)=false:=by simpa using k2
     by_cases s3:tk.s=[45]\/tk.s=[33]\/tk.s=[126]
     ·rw [ae s3] at h
      cases he:mE f (.operand (d+1)) p1.next with
      | none=>rw [he] at h;cases h
      | some r =>
       obtain ⟨a,p2⟩:=r;rw [he] at h;cases h
       have s3':(tk.s==[45])=true\/((tk.s==[45])=false/\(tk.s==[33])=true)\/((tk.s==[45])=false/\(tk.s==[33])=false/\(tk.s==[126])=true):=by
        rcases s3 with s3 | s3 | s3
        ·exact .inl (by simp [s3])
        ·exact .inr (.inl (by simp [s3]))
        ·exact .inr (.inr (by simp [s3]))
       refine G ?_
       rcases s3' with e1 | ⟨e1,e2⟩ | ⟨e1,e2,e3⟩
       all_goals
        refine G ?_;refine aJ (aD 0 7 (.a 7 (.a 8 (.a 9 (.a 10 .nil))))) ?_;refine au ?_;refine az [0] (C.operand (d+1) p1.next a q dA ag he) ?_;refine eZ ?_;refine au ?_;refine Cd [] (gZ 5 tk.at_ tk.s [a] _ oZ) ?_;refine Iu ?_;refine au ?_;exact qn
     ·rw [ab s3] at h
      have e1:(tk.s==[45])=false:=by simp at s3;simpa using s3.1
      have e2:(tk.s==[33])=false:=by simp at s3;simpa using s3.2.1
      have e3:(tk.s==[126])=false:=by simp at s3;simpa using s3.2.2
      by_cases s4:tk.s=[40]
      ·rw [ae s4] at h
       have s4':(tk.s==[40])=true:=by simp [s4]
       cases he:mE f (.expr (d+1)) p1.next with
       | none=>rw [he] at h;cases h
       | some r =>
        obtain ⟨a,p2⟩:=r;rw [he] at h;cases h;have ed:=((vt f).1 _ _ _ _ dA he).ok dA;refine G ?_;refine D [0] (C.expr (d+1) p1.next t p2 dA ag he) ?_;refine D [0] (dq p2 [41] ed aM) ?_;exact dF
      ·rw [ab s4] at h
       have s4':(tk.s==[40])=false:=by simpa using s4
       cases h;refine G ?_;refine D [0] (mN p1 7 tk.at_) ?_;refine r8 ?_;exact ⟨_,jR,rfl,rfl⟩
 ·rw [ab hc] at h
  have dK:(p1.code != 0)=true:=by simpa using hc
  cases h;refine ai func244 ntmps244 ?_;refine D [0] xi ?_;refine aJ (aD 0 17 .nil) ?_;refine bj ?_;refine D [0] (lN p1 lI) ?_;refine D [0] (mN p1 7 p1.place) ?_;refine r8 ?_;exact ⟨_,jR,rfl,rfl⟩
theorem rds (f:Nat):F8 f:=by
  induction f using Nat.strongRecOn with
  | _ f ih =>
   cases f with
   | zero=>exact ⟨fun d p t q _ _ h=>by simp [mE] at h,fun k d p t q _ _ _ h=>by simp [mE] at h,fun d p t q _ _ h=>by simp [mE] at h,fun a s d p t q _ _ h=>by simp [mE] at h,fun d p l q _ _ h=>by simp [mL] at h⟩
   | succ f =>
    have C:=ih f (Nat.lt_succ_self f)
    have Cs:∀ f',f'<=f->F8 f':=fun f' h=>ih f' (Nat.lt_succ_of_le h)
    exact ⟨fun d p t q hp hd h=>Vp C d p t q hp hd h,fun k d p t q hp hk hd h=>Uk Cs k d p t q hp hk hd h,fun d p t q hp hd h=>O3 C d p t q hp hd h,fun a s d p t q hp hd h=>Up C a s d p t q hp hd h,fun d p l q hp hd h=>WC Cs d p l q hp hd h⟩
end Go.Xg
namespace Go.Xg
open GV (U)
open Go.RowKit Go.Xw Go.Proofs Tryz
open Go.Xp (Tok Nd T br one levels iv eo eM dL dy)
open Go.Sp
attribute [local irreducible] GW GL GO YG GC GA ba bc
structure ML (f:Nat):Prop where
 block:∀ d p t q,p.ok->d+f<=1099511627776->mS f (.block d) p=some (t,q)->GF prog 113 [.loc 0 0,.v (ii (d:Nat))] [cn p] (.agg (cT t)) [cn q]
 stmt:∀ d p t q,p.ok->d+f<=1099511627776->mS f (.stmt d) p=some (t,q)->GF prog 155 [.loc 0 0,.v (ii (d:Nat))] [cn p] (.agg (cT t)) [cn q]
 cond:∀ a d p t q,p.ok->p.i < p.l.length->d+f<=1099511627776->mS f (.cond a d) p=some (t,q)->GF prog 195 [.loc 0 0,.v (ii a),.v (ii (d:Nat))] [cn p] (.agg (cT t)) [cn q]
theorem y5 (d:Nat) (p:RS) (t:T) (q:RS) (hp:p.ok) (hd:d<=1099511627777) (h:mX d p=some (t,q)):GF prog 194 [.loc 0 0,.v (ii (d:Nat))] [cn p] (.agg (cT t)) [cn q] :=
 (rds (fe p)).expr d p t q hp (by have:=hp.2;unfold fe;omega) h
theorem LR (k a:Int) (s:ah):GF prog 151 [.v (ii k),.v (ii a),.v (sv s),.v (.slice none 0 0)] [] (.agg [.v (ii k),.v (ii a),.v (ii 0),.v (sv s),ints [],.v (.slice none 0 0)]) []:=by
 refine ai func151 ntmps151 ?_;refine r8 ?_;exact ⟨_,jR,rfl,rfl⟩
theorem TC {f:Nat} (C:∀ f',f'<=f->ML f') (d:Nat) (p:RS) (t:T) (q:RS) (hp:p.ok) (hd:d+(f+1)<=1099511627776) (h:mS (f+1) (.block d) p=some (t,q)) :
  GF prog 113 [.loc 0 0,.v (ii (d:Nat))] [cn p] (.agg (cT t)) [cn q]:=by
 rw [mS] at h;have lI:=(oY hp d).ok hp;have xi:=vq p d hp;generalize p.deep d=p1 at *
 try simp only at h
 have yQ:=(fR lI (s:=[123]) aM).ok lI
 cases he:mB f (d+1) [] (p1.aP [123]) with
 | none=>rw [he] at h;cases h
 | some r =>
  obtain ⟨l,q1⟩:=r;rw [he] at h;cases h;generalize cX:p1.place=pl;refine ai func113 ntmps113 ?_;refine D [0] xi ?_;refine D [0] (lN p1 lI) ?_;refine D [] (LR 14 p1.place []) ?_;refine D [0] (dq p1 [123] lI aM) ?_;rw [cX];refine GW.wk (Wk.L7 (i:=2) (o:=5) 75 6 rfl rfl) ?_;refine GW.loop (fun x:Nat × List T × RS=>x.1) (fun x fr Γ=>∃ n rows,fr=[.loc 0 0,.v (ii (d:Nat)),U,U,.loc 1 0,.loc 2 0,U,U,U,U,U,U,U,U,U,U,U,U,U,U,U,U,U,U,U,U,U,U,U,U,U,U,U,U,U,U]/\Γ=[cn x.2.2,.box 75 zT,.box 75 [.v (ii 14),.v (ii pl),.v (ii 0),.v (sv []),ints [],.vec 3 n],.vec 75 6 0 rows]/\rows.length=n/\rows=aU x.2.1/\n+x.1<=f/\x.2.2.ok/\mB x.1 (d+1) x.2.1 x.2.2=some (l,q1)) (f,[],p1.aP [123]) ?_ ?_
  ·exact ⟨_,_,Wk.aK av,0,[],rfl,rfl,rfl,rfl,by simp,yQ,he⟩
  ·rintro ⟨g,acc,p⟩ _ _ ⟨n,rows,rfl,rfl,hn,bG,AE,hp,h⟩;simp only at bG AE hp h
   cases g with
   | zero=>simp [mB] at h
   | succ g =>
   rw [mB] at h
   by_cases hc:p.code=0
   ·have dK:(p.code==0)=true:=by simpa using hc
    by_cases hs:p.sign 0=[125]
    ·rw [ab (fun hh=>hh.2 hs)] at h
     obtain ⟨rfl,rfl⟩:acc=l/\p=q1:=by simpa using h
     have pe:(!(p.sign 0==[125]))=false:=by simp [hs]
     subst bG;refine G ?_;refine D [0] (dr p 0 hp aM) ?_;refine jQ ?_;refine G ?_;refine GL.wk (Wk.zY (i:=2) (o:=5) rfl rfl rfl rfl hn) ?_;refine cm ?_;refine D [0] (dq p [125] hp aM) ?_;exact dF
    ·rw [ae ⟨hc,hs⟩] at h
     have pe:(!(p.sign 0==[125]))=true:=by simpa using hs
     cases hb:mS g (.stmt (d+1)) p with
     | none=>rw [hb] at h;cases h
     | some r =>
      obtain ⟨a,p2⟩:=r;rw [hb] at h;simp only at h;have ed:=((L4 g).1 _ _ _ _ hp (fun a d' h=>by cases h) hb).ok hp;refine G ?_;refine D [0] (dr p 0 hp aM) ?_;refine aJ (aD 0 5 (.a 5 (.a 6 (.a 7 (.q 8 (.a 9 .nil)))))) ?_;refine au ?_;refine az [0] ((C g ag).stmt (d+1) p a p2 hp ag hb) ?_;refine eZ ?_;refine au ?_;refine Ee ?_;refine bj ?_;exact ⟨(g,acc++[a],p2),⟨_,_,Wk.aK av,_,_,rfl,rfl,by simp [hn],by rw [yo,bG];rfl,by show n+1+g<=f;omega,ed,h⟩,by simp⟩
   ·have dK:(p.code==0)=false:=by simpa using hc
    rw [ab (fun hh=>hc hh.1)] at h
    obtain ⟨rfl,rfl⟩:acc=l/\p=q1:=by simpa using h
    subst bG;refine dd ?_;refine G ?_;refine GL.wk (Wk.zY (i:=2) (o:=5) rfl rfl rfl rfl hn) ?_;refine cm ?_;refine D [0] (dq p [125] hp aM) ?_;exact dF
theorem Vh {f:Nat} (C:ML f) (a:Int) (d:Nat) (p:RS) (t:T) (q:RS) (hp:p.ok) (ar:p.i < p.l.length) (hd:d+(f+1)<=1099511627776) (h:mS (f+1) (.cond a d) p=some (t,q)) :
  GF prog 195 [.loc 0 0,.v (ii a),.v (ii (d:Nat))] [cn p] (.agg (cT t)) [cn q]:=by
 rw [mS] at h
 try simp only at h
 have dA:=(dO ar).ok hp;have cX:=hp.2;have yQ:=(fR dA (s:=[40]) aM).ok dA
 cases he:mX (d+1) (p.next.aP [40]) with
 | none=>rw [he] at h;cases h
 | some r =>
 obtain ⟨e,p1⟩:=r;rw [he] at h;simp only at h;have lH:=(pX yQ he).ok yQ;have Hk:=(fR lH (s:=[41]) aM).ok lH
 cases hb:mS f (.block (d+1)) (p1.aP [41]) with
 | none=>rw [hb] at h;cases h
 | some r =>
 obtain ⟨b,p2⟩:=r;rw [hb] at h;simp only at h;have ed:=((L4 f).1 _ _ _ _ Hk (fun a d' h=>by cases h) hb).ok Hk;have V7:=ed.2
 have key:∀ k:Int,(if k=9/\p2.sign 0=eM then match mS f (.block (d+1)) p2.next with
     | none=>none
     | some (b2,q)=>some (one k a [] [e,b,b2],q)
    else some (one k a [] [e,b],p2))=some (t,q)->p.ck=k->(k=9\/k=10)->((p.sign 0==[105,102])=true/\k=9)\/((p.sign 0==[105,102])=false/\k=10):=by
  intro k _ hk _;unfold RS.ck at hk;split at hk
  ·rename_i hs;exact .inl ⟨by rw [hs];rfl,hk.symm⟩
  ·rename_i hs;refine .inr ⟨?_,hk.symm⟩
   cases hq:(p.sign 0==[105,102]) with
   | false=>rfl
   | true=>exact absurd (eq_of_beq hq) hs
 have uv:p.ck=9\/p.ck=10:=by unfold RS.ck;split <;> simp
 have key:=key p.ck h rfl uv;generalize p.ck=k at h key;clear uv
 rcases key with ⟨hs,rfl⟩ | ⟨hs,rfl⟩
 ·by_cases eR:p2.sign 0=eM
  ·rw [ae ⟨rfl,eR⟩] at h
   have ZX:(p2.sign 0==[101,108,115,101])=true:=by rw [eR];rfl
   have nN:=(gw eR aM).1;have aag:=(jP eR aM).ok ed
   cases fv:mS f (.block (d+1)) p2.next with
   | none=>rw [fv] at h;cases h
   | some r =>
   obtain ⟨b2,p3⟩:=r;rw [fv] at h;cases h;refine ai func195 ntmps195 ?_;refine D [0] (dr p 0 hp aM) ?_;refine D [0] (dq p.next [40] dA aM) ?_;refine D [0] (y5 (d+1) _ e p1 yQ ag he) ?_;refine D [0] (dq p1 [41] lH aM) ?_;refine aJ (aD 0 4 (.a 4 (.a 5 (.q 6 .nil)))) ?_;refine au ?_;refine az [0] (C.block (d+1) _ b p2 Hk ag hb) ?_;refine Ef ?_;refine bj ?_;refine D [0] (dr p2 0 ed aM) ?_;refine lu [0] (C.block (d+1) _ b2 q aag ag fv) ?_;refine fG ?_;refine G ?_;refine GL.wk (Wk.ki (t:=57) rfl rfl rfl rfl) ?_;refine cm ?_;refine D [] (gZ 9 a [] [e,b,b2] _ oZ) ?_;exact dF
  ·rw [ab (fun hh=>eR hh.2)] at h
   have ZX:(p2.sign 0==[101,108,115,101])=false:=by
    cases hq:(p2.sign 0==[101,108,115,101]) with
    | false=>rfl
    | true=>exact absurd (eq_of_beq hq) eR
   cases h;refine ai func195 ntmps195 ?_;refine D [0] (dr p 0 hp aM) ?_;refine D [0] (dq p.next [40] dA aM) ?_;refine D [0] (y5 (d+1) _ e p1 yQ ag he) ?_;refine D [0] (dq p1 [41] lH aM) ?_;refine aJ (aD 0 4 (.a 4 (.a 5 (.q 6 .nil)))) ?_;refine au ?_;refine az [0] (C.block (d+1) _ b q Hk ag hb) ?_;refine Ef ?_;refine bj ?_;refine D [0] (dr q 0 ed aM) ?_;refine GL.wk (Wk.ki (t:=57) rfl rfl rfl rfl) ?_;refine cm ?_;refine D [] (gZ 9 a [] [e,b] _ oZ) ?_;exact dF
 ·rw [ab (fun hh=>by cases hh.1)] at h;cases h;refine ai func195 ntmps195 ?_;refine D [0] (dr p 0 hp aM) ?_;refine D [0] (dq p.next [40] dA aM) ?_;refine D [0] (y5 (d+1) _ e p1 yQ ag he) ?_;refine D [0] (dq p1 [41] lH aM) ?_;refine aJ (aD 0 4 (.a 4 (.a 5 (.q 6 .nil)))) ?_;refine au ?_;refine az [0] (C.block (d+1) _ b q Hk ag hb) ?_;refine Ef ?_;refine bj ?_;refine GL.wk (Wk.ki (t:=57) rfl rfl rfl rfl) ?_;refine cm ?_;refine D [] (gZ 10 a [] [e,b] _ oZ) ?_;exact dF
theorem vT {s t:ah} (h:¬ s=t):(s==t)=false:=by
 cases hq:(s==t) with
 | false=>rfl
 | true=>exact absurd (eq_of_beq hq) h
theorem W9 {f:Nat} (C:ML f) (d:Nat) (p:RS) (t:T) (q:RS) (hp:p.ok) (hd:d+(f+1)<=1099511627776) (h:mS (f+1) (.stmt d) p=some (t,q)) :
  GF prog 155 [.loc 0 0,.v (ii (d:Nat))] [cn p] (.agg (cT t)) [cn q]:=by
 rw [mS] at h;have lI:=(oY hp d).ok hp;have xi:=vq p d hp;generalize p.deep d=p1 at *
 try simp only at h
 obtain ⟨E8,cX⟩:=id lI;generalize pF:p1.place=at_ at h;refine ai func155 ntmps155 ?_;refine D [0] xi ?_;refine D [0] (lN p1 lI) ?_;refine lu [0] (dr p1 0 lI aM) ?_;rw [pF]
 by_cases I:p1.sign 0=iv
 ·rw [ae I] at h
  have e1:(p1.sign 0==[118,97,114])=true:=by rw [I];rfl
  have ar:=(gw I aM).1;have hn:=(jP I aM).ok lI;have fy:=(rZ hn).ok hn;have kF:=(fR fy (s:=[61]) aM).ok fy
  cases he:mX (d+1) (p1.next.name.2.aP [61]) with
  | none=>rw [he] at h;cases h
  | some r =>
  obtain ⟨e,p2⟩:=r;rw [he] at h;cases h;have ed:=(pX kF he).ok kF;refine G ?_;refine D [0] (yY p1.next hn) ?_;refine D [0] (dq _ [61] fy aM) ?_;refine D [0] (y5 (d+1) _ e p2 kF ag he) ?_;refine D [0] (dq p2 [59] ed aM) ?_;refine b6 ?_;refine G ?_;refine D [] (gZ 13 at_ p1.next.name.1 [e] _ oZ) ?_;exact dF
 rw [ab I] at h;have e1:(p1.sign 0==[118,97,114])=false:=vT I
 by_cases F:p1.sign 0=eo\/p1.sign 0=dL
 ·rw [ae F] at h
  have e2:(p1.sign 0==[105,102])=true\/((p1.sign 0==[105,102])=false/\(p1.sign 0==[119,104,105,108,101])=true):=by
   rcases F with F | F
   ·exact .inl (by rw [F];rfl)
   ·exact .inr ⟨by rw [F];rfl,by rw [F];rfl⟩
  have ar:p1.i < p1.l.length:=by
   rcases F with F | F
   ·exact (gw F aM).1
   ·exact (gw F aM).1
  rcases e2 with e2 | ⟨e2,e3⟩
  all_goals
   refine G ?_;refine D [0] (C.cond at_ d p1 t q lI ar ag h) ?_;exact dF
 rw [ab F] at h
 have e2:(p1.sign 0==[105,102])=false:=vT fun hh=>F (.inl hh)
 have e3:(p1.sign 0==[119,104,105,108,101])=false:=vT fun hh=>F (.inr hh)
 by_cases h4:p1.sign 0=dy
 ·rw [ae h4] at h
  have e4:(p1.sign 0==[114,101,116,117,114,110])=true:=by rw [h4];rfl
  have ar:=(gw h4 aM).1;have hn:=(jP h4 aM).ok lI
  cases he:mX (d+1) p1.next with
  | none=>rw [he] at h;cases h
  | some r =>
  obtain ⟨e,p2⟩:=r;rw [he] at h;cases h;have ed:=(pX hn he).ok hn;refine G ?_;refine D [0] (y5 (d+1) _ e p2 hn ag he) ?_;refine D [0] (dq p2 [59] ed aM) ?_;refine b6 ?_;refine G ?_;refine D [] (gZ 11 at_ [] [e] _ oZ) ?_;exact dF
 rw [ab h4] at h;have e4:(p1.sign 0==[114,101,116,117,114,110])=false:=vT h4
 by_cases h5:p1.code=0/\p1.oB=true/\p1.sign 1=[61]
 ·rw [ae h5] at h;obtain ⟨hc,Hi,gk⟩:=h5
  have dK:(p1.code==0)=true:=by simpa using hc
  have aa7:(p1.sign 1==[61])=true:=by rw [gk];rfl
  unfold RS.oB at Hi
  cases ht:p1.l[p1.i]? with
  | none=>rw [ht] at Hi;cases Hi
  | some tk =>
  rw [ht] at Hi
  have hk:(tk.kind==2)=true:=by simpa using Hi
  have ar:=(bh ht).1
  have QA:decide ((p1.i:Int) < ((p1.l.map dv).length:Int))=true:=by simpa using ar
  have hr:=lq ht;have fy:=(rZ lI).ok lI;have kF:=(fR fy (s:=[61]) aM).ok fy
  cases he:mX (d+1) (p1.name.2.aP [61]) with
  | none=>rw [he] at h;cases h
  | some r =>
  obtain ⟨e,p2⟩:=r;rw [he] at h;cases h;have ed:=(pX kF he).ok kF;refine G ?_;refine aJ (aD 0 33 (.a 33 (.q 34 (.q 35 .nil)))) ?_;refine au ?_;refine bL [0] (dr p1 1 lI aM) ?_;refine G ?_;refine D [0] (yY p1 lI) ?_;refine D [0] (dq _ [61] fy aM) ?_;refine D [0] (y5 (d+1) _ e p2 kF ag he) ?_;refine D [0] (dq p2 [59] ed aM) ?_;refine b6 ?_;refine G ?_;refine D [] (gZ 7 at_ p1.name.1 [e] _ oZ) ?_;exact dF
 rw [ab h5] at h
 cases he:mX (d+1) p1 with
 | none=>rw [he] at h;cases h
 | some r =>
 obtain ⟨e,p2⟩:=r;rw [he] at h;simp only at h;have ed:=(pX lI he).ok lI;have V7:=ed.2
 have Ht:(p1.code==0)=false\/((p1.code==0)=true/\p1.l.length<=p1.i)\/((p1.code==0)=true/\∃ tk,p1.l[p1.i]?=some tk/\((tk.kind==2)=false\/((tk.kind==2)=true/\(p1.sign 1==[61])=false))):=by
  by_cases hc:p1.code=0
  ·refine .inr ?_
   have dK:(p1.code==0)=true:=by simpa using hc
   cases ht:p1.l[p1.i]? with
   | none=>exact .inl ⟨dK,py ht⟩
   | some tk =>
    refine .inr ⟨dK,tk,rfl,?_⟩
    by_cases hk:tk.kind=2
    ·refine .inr ⟨by simpa using hk,vT fun h61=>h5 ⟨hc,?_,h61⟩⟩;unfold RS.oB;rw [ht];simpa using hk
    ·exact .inl (by simpa using hk)
  ·exact .inl (by simpa using hc)
 refine G ?_;refine GW.join (fun fr Γ=>fr=[.loc 0 0,.v (ii (d:Nat)),U,U,.loc 1 0,.v (ii at_),U,U,U,U,U,U,U,U,U,U,U,U,U,U,U,U,U,U,U,U,U,U,U,U,U,U,U,U,U,U,U,U,U,U,U,U,U,U,U,U,U,U,U,U,U,U,U,U,U,U,U,U,U,U,U,U,U,U,U,U,U,U,U,U,U,U,U,U,U,U,U,U,U,U,U,U,U,U,U,U,U,U,U,U,U,U,U,U,U,U,U,U,U,U,U,U,U,U,U,.v (.bool false),U,U,U,U,U,U,U,U,U,U,U,U,U,U,U,U,U,U,U,U,U,U,U,U,U,U,U,U,U,U,U,U,U,U,U,U,U,U,U,U,U,U,U,U,U,U,U,U,U,U,U,U,U,U,U,U,U,U,U,U,U,U,U,U,U]/\Γ=[cn p1,.box 75 zT]) ?_ ?_
 ·rcases Ht with dK | ⟨dK,ko⟩ | ⟨dK,tk,ht,hk | ⟨hk,gk⟩⟩
  ·refine aJ (aD 0 33 (.a 33 (.q 34 (.q 35 .nil)))) ?_;refine au ?_;exact be ⟨_,_,Wk.aK av,rfl,rfl⟩
  ·have QA:decide ((p1.i:Int) < ((p1.l.map dv).length:Int))=false:=by simpa using ko
   refine aJ (aD 0 33 (.a 33 (.q 34 (.q 35 .nil)))) ?_;refine au ?_;exact be ⟨_,_,Wk.aK av,rfl,rfl⟩
  ·have ar:=(bh ht).1
   have QA:decide ((p1.i:Int) < ((p1.l.map dv).length:Int))=true:=by simpa using ar
   have hr:=lq ht;refine aJ (aD 0 33 (.a 33 (.q 34 (.q 35 .nil)))) ?_;refine au ?_;exact be ⟨_,_,Wk.aK av,rfl,rfl⟩
  ·have ar:=(bh ht).1
   have QA:decide ((p1.i:Int) < ((p1.l.map dv).length:Int))=true:=by simpa using ar
   have hr:=lq ht;refine aJ (aD 0 33 (.a 33 (.q 34 (.q 35 .nil)))) ?_;refine au ?_;refine bL [0] (dr p1 1 lI aM) ?_;exact be ⟨_,_,Wk.aK (by repeat (first | exact ud.nil | refine ud.U ?_ | refine ud.eq rfl ?_ | refine ud.eq (by rw [gk]) ?_)),rfl,rfl⟩
 ·rintro _ _ ⟨rfl,rfl⟩;refine G ?_;refine D [0] (y5 (d+1) _ e p2 lI ag he) ?_
  by_cases k3:e.n.kind=3
  ·have k3':(e.n.kind==3)=true:=by simpa using k3
   by_cases ka:e.n.at_=at_
   ·have ka':(e.n.at_==at_)=true:=by simpa using ka
    by_cases ks:p2.sign 0=[61]
    ·have ks':(p2.sign 0==[61])=true:=by rw [ks];rfl
     rw [ae ⟨k3,ka,ks⟩] at h;have ar:=(gw ks aM).1;have hn:=(jP ks aM).ok ed
     cases hk:e.kids with
     | nil=>rw [hk] at h;cases h
     | cons a rest =>
     cases hv:mX (d+1) p2.next with
     | none=>rw [hk,hv] at h;cases h
     | some r =>
     obtain ⟨v,p3⟩:=r;rw [hk,hv] at h;cases h;have AG:=(pX hn hv).ok hn
     have hr:(aU (a::rest))[0]?=some (cT a):=by simp [aU,v7]
     refine G ?_;refine D [0] (dr p2 0 ed aM) ?_;refine D [0] (y5 (d+1) _ v p3 hn ag hv) ?_;refine D [0] (dq p3 [59] AG aM) ?_;refine aJ (aD 0 9 (.a 9 (.a 10 (.a 11 .nil)))) ?_;refine au ?_;refine eZ ?_;refine au ?_;refine Cd [] (gZ 8 at_ e.n.s [a,v] _ oZ) ?_;refine Iu ?_;refine au ?_;exact qn
    ·have ks':(p2.sign 0==[61])=false:=vT ks;rw [ab (fun hh=>ks hh.2.2)] at h;cases h;refine G ?_;refine D [0] (dr p2 0 ed aM) ?_;refine D [0] (dq p2 [59] ed aM) ?_;refine b6 ?_;refine G ?_;refine D [] (gZ 12 at_ [] [e] _ oZ) ?_;exact dF
   ·have ka':(e.n.at_==at_)=false:=by simpa using ka
    rw [ab (fun hh=>ka hh.2.1)] at h;cases h;refine G ?_;refine D [0] (dq p2 [59] ed aM) ?_;refine b6 ?_;refine G ?_;refine D [] (gZ 12 at_ [] [e] _ oZ) ?_;exact dF
  ·have k3':(e.n.kind==3)=false:=by simpa using k3
   rw [ab (fun hh=>k3 hh.1)] at h;cases h;refine G ?_;refine D [0] (dq p2 [59] ed aM) ?_;refine b6 ?_;refine G ?_;refine D [] (gZ 12 at_ [] [e] _ oZ) ?_;exact dF
theorem sds (f:Nat):ML f:=by
 induction f using Nat.strongRecOn with
 | _ f ih =>
  cases f with
  | zero=>exact ⟨fun d p t q _ _ h=>by simp [mS] at h,fun d p t q _ _ h=>by simp [mS] at h,fun a d p t q _ _ _ h=>by simp [mS] at h⟩
  | succ f =>
   have C:=ih f (Nat.lt_succ_self f)
   have Cs:∀ f',f'<=f->ML f':=fun f' h=>ih f' (Nat.lt_succ_of_le h)
   exact ⟨fun d p t q hp hd h=>TC Cs d p t q hp hd h,fun d p t q hp hd h=>W9 C d p t q hp hd h,fun a d p t q hp hl hd h=>Vh C a d p t q hp hl hd h⟩
end Go.Xg
namespace Go.Xg
open GV (U)
open Go.RowKit Go.Xw Go.Proofs Tryz
open Go.Xp (Tok Nd T br one levels Ar)
open Go.Sp
attribute [local irreducible] GW GL GO YG GC GA ba bc
def aB (n:Nd):List GV:=[.v (ii n.kind),.v (ii n.at_),.v (ii n.n),.v (sv n.s),ints n.kids]
def ay (f:Go.Sp.Fn):List GV:=[.v (sv f.name),strs f.params,.v (ii f.body)]
def aL (a:Ar):List GV:=[.v (sv a.name),.v (ii a.size)]
abbrev ao (p:Src):List GV:=[strs p.globals,.sl 2 (p.arrays.map aL),.sl 3 (p.fns.map ay),.sl 5 (p.nodes.map aB)]
theorem I0 (k:Int):GF prog 223 [.v (ii k)] [] (.v (.bool (nz k))) []:=by
 unfold nz;refine dT func223 ntmps223 ?_
 cases h:decide ((1:Int)<=k)
 all_goals
  exact ax
theorem I1 (k:Int):GF prog 184 [.v (ii k)] [] (.v (.bool (im k))) []:=by
 unfold im;refine dT func184 ntmps184 ?_
 cases h:decide ((7:Int)<=k)
 all_goals
  exact ax
theorem uI (s:ah):GF prog 183 [.v (sv s)] [] (.v (.bool (fa s))) []:=by
 refine ai func183 ntmps183 ?_;refine D [] kr ?_;refine GW.range (levels.map fun l=>[strs l]).length (fun k fr Γ=>fr=[.v (sv s),U,U,U,U,.sl 1 (levels.map fun l=>[strs l]),.v (ii ((levels.map fun l=>[strs l]).length:Int)),.v (ii (k:Nat)),U,U,U,U,U,U,U]/\Γ=[]/\((levels.take k).any fun l=>l.contains s)=false) ?_ aM ?_ ?_ ?_
 ·exact jW
 ·exact ig
 ·rintro k _ _ hk ⟨rfl,rfl,hf⟩
  have hk:k < levels.length:=by simpa using hk
  have hx:levels[k]?=some levels[k]:=by simp [hk]
  have hr:(levels.map fun l=>[strs l])[k]?=some [strs levels[k]]:=by simp [hk]
  have AH:levels[k].length<=1099511627776:=by
   have:∀ l∈levels,l.length<=1099511627776:=by decide
   exact this _ (getElem_mem hk)
  generalize levels[k]=x at *;have hh:=jT x s AH
  cases hb:x.contains s with
  | true =>
   rw [hb] at hh
   have ha:fa s=true:=by
    unfold fa;rw [p7];exact ⟨x,bm hx,hb⟩
   refine G ?_;refine D [] hh ?_;refine bV ?_;rw [ha];exact ⟨rfl,rfl⟩
  | false =>
   rw [hb] at hh;refine G ?_;refine D [] hh ?_;exact ⟨rfl,rfl,_,_,Wk.aK av,rfl,rfl,by rw [cq,hx,List.any_append,hf];simp only [Option.toList,List.any_cons,List.any_nil,hb];rfl⟩
 ·rintro _ _ ⟨rfl,rfl,hf⟩
  have hf:fa s=false:=by
   rw [jS (by simp)] at hf;exact hf
  refine G ?_;refine bV ?_;rw [hf];exact ⟨rfl,rfl⟩
theorem cI {l:List T} {i:Nat} {t:T} (h:l[i]?=some t):(aU l)[i]?=some (cT t):=by
 induction l generalizing i with
 | nil=>simp at h
 | cons a l ih =>
  cases i with
  | zero=>cases h;simp [aU,v7]
  | succ i=>simpa [aU] using ih (by simpa using h)
theorem fM (t:T) (m:Nat) (hl:t.kids.length<=1099511627776):GF prog 182 [.agg (cT t),.v (ii (m:Nat))] [] (.v (.bool (bt m 0 t.kids))) []:=by
 refine ai func182 ntmps182 ?_;refine GW.range (aU t.kids).length (fun k fr Γ=>fr=[U,.v (ii (m:Nat)),U,U,U,U,U,U,.sl 6 (aU t.kids),.v (ii ((aU t.kids).length:Int)),.v (ii (k:Nat)),U,U,U,U,U,U,U,U,U,U,U,U,U,U,U,U,U,U,U,U,U,U,U,U,U,U]/\Γ=[]/\bt m k (t.kids.drop k)=bt m 0 t.kids) ?_ (by rw [aW];exact hl) ?_ ?_ ?_
 ·exact ⟨_,_,(Wk.cut (n:=0) (aH _) rfl).trans (Wk.aK av),rfl,rfl,rfl⟩
 ·exact ig
 ·rintro k _ _ hk ⟨rfl,rfl,hf⟩
  have hk:k < t.kids.length:=by rw [aW] at hk;exact hk
  have hx:t.kids[k]?=some t.kids[k]:=by simp [hk]
  have hr:=cI hx;rw [nl hk,bt] at hf;generalize t.kids[k]=x at *;have he:=I0 x.n.kind
  by_cases hm:k < m
  ·have hm1:decide ((k:Int) < (m:Int))=true:=by simpa using hm
   have He:decide ((m:Int)<=(k:Int))=false:=by simpa using hm
   rw [ae hm] at hf
   cases hb:nz x.n.kind with
   | true =>
    rw [hb] at he hf;refine G ?_;refine D [] he ?_;exact ⟨rfl,rfl,_,_,(Wk.cut (n:=0) (aH _) rfl).trans (Wk.aK av),rfl,rfl,by simpa using hf⟩
   | false =>
    rw [hb] at he hf;refine G ?_;refine D [] he ?_;refine bV ?_;rw [<-hf];exact ⟨rfl,rfl⟩
  ·have hm1:decide ((k:Int) < (m:Int))=false:=by simp;omega
   have He:decide ((m:Int)<=(k:Int))=true:=by simp;omega
   rw [ab hm] at hf
   cases hb:(x.n.kind==14) with
   | true =>
    rw [hb] at hf
    have bo:(x.n.kind != 14)=false:=by simp only [bne,hb];rfl
    refine G ?_;exact ⟨rfl,rfl,_,_,(Wk.cut (n:=0) (aH _) rfl).trans (Wk.aK av),rfl,rfl,by simpa using hf⟩
   | false =>
    rw [hb] at hf
    have bo:(x.n.kind != 14)=true:=by simp only [bne,hb];rfl
    refine G ?_;refine bV ?_;rw [<-hf];exact ⟨rfl,rfl⟩
 ·rintro _ _ ⟨rfl,rfl,hf⟩;rw [aW,List.drop_length,bt] at hf;refine G ?_;refine bV ?_;rw [<-hf];exact ⟨rfl,rfl⟩
theorem ia {l:List Nd} {i:Nat} {n:Nd} (h:l[i]?=some n):(l.map aB)[i]?=some (aB n):=by rw [aV,h];rfl
theorem iR {l:List Int} {i:Nat} {n:Int} (h:l[i]?=some n):(l.map fun i=>[GV.v (ii i)])[i]?=some [.v (ii n)]:=by rw [aV,h];rfl
theorem Dg (p:Src) (hk:∀ n∈p.nodes,n.kids.length<=1000000000000):∀ (f a:Nat) (t:T),sub p.nodes f a=some t->GF prog 45 [.agg (ao p),.v (ii (a:Nat))] [] (.agg (cT t)) []:=by
 intro f
 induction f using Nat.strongRecOn with
 | _ f ih =>
 intro a t h
 cases f with
 | zero=>simp [sub] at h
 | succ f =>
 rw [sub] at h
 cases hn:p.nodes[a]? with
 | none=>rw [hn] at h;cases h
 | some n =>
 rw [hn] at h;simp only at h
 cases hs:px p.nodes f n.kids [] with
 | none=>rw [hs] at h;cases h
 | some l =>
 rw [hs] at h;cases h;have hr:=ia hn;have eS:=hk n (bm hn);refine ai func45 ntmps45 ?_;refine GW.wk (Wk.L7 (i:=2) (o:=5) 75 6 rfl rfl) ?_
 refine GW.range (n.kids.map fun i=>[GV.v (ii i)]).length (fun k fr Γ=>∃ rows acc g,fr=[U,.v (ii (a:Nat)),.loc 0 0,U,.loc 1 0,.loc 2 0,U,U,U,U,U,U,U,U,U,U,U,U,U,ints n.kids,.v (ii ((n.kids.map fun i=>[GV.v (ii i)]).length:Int)),.v (ii (k:Nat)),U,U,U,U,U,U,U,U,U,U,U,U,U] /\
   Γ=[.box 34 (ao p),.box 75 zT,.box 75 [.v (ii n.kind),.v (ii n.at_),.v (ii n.n),.v (sv n.s),ints n.kids,.vec 3 k],.vec 75 6 0 rows] /\
   rows.length=k/\rows=aU acc/\g<=f/\px p.nodes g (n.kids.drop k) acc=some l) ?_ (by simp;omega) ?_ ?_ ?_
 ·exact ⟨_,_,Wk.aK av,[],[],f,rfl,rfl,rfl,rfl,aH _,hs⟩
 ·rintro k _ _ ⟨_,_,_,rfl,rfl,_⟩;exact dI
 ·rintro k _ _ ar ⟨rows,acc,g,rfl,rfl,Ho,bG,hg,h⟩
  have ar:k < n.kids.length:=by simpa using ar
  have hx:n.kids[k]?=some n.kids[k]:=by simp [ar]
  rw [nl ar] at h;generalize n.kids[k]=x at *
  cases g with
  | zero=>simp [px] at h
  | succ g =>
  rw [px] at h
  by_cases nX:x < 0
  ·rw [ae nX] at h;cases h
  rw [ab nX] at h
  cases bI:sub p.nodes g x.toNat with
  | none=>rw [bI] at h;cases h
  | some t =>
  rw [bI] at h;simp only at h;have zN:=ih g ag x.toNat t bI;rw [Int.toNat_of_nonneg ag] at zN;have uD:=iR hx;refine G ?_;refine aJ (aD 0 4 (.a 4 (.a 5 (.a 6 (.q 7 (.a 8 .nil)))))) ?_;refine au ?_;refine az [] zN ?_;refine eZ ?_;refine au ?_;refine Ee ?_;refine bj ?_;exact ⟨rfl,rfl,_,_,Wk.aK av,_,acc++[t],g,rfl,rfl,by rw [aZ,Ho];rfl,by rw [yo,bG];rfl,by omega,h⟩
 ·rintro _ _ ⟨rows,acc,g,rfl,rfl,Ho,bG,hg,h⟩;rw [bS,List.drop_length] at h
  have lY:acc=l:=by cases g <;> (rw [px] at h;cases h;rfl)
  subst lY;subst bG;refine be (GW.wk (Wk.zY (i:=2) (o:=5) rfl rfl rfl rfl Ho) ?_);exact qn
end Go.Xg
namespace Go.Xg
open Go.RowKit Go.Xw Go.Proofs Go.WideShapes Go.Deep
open Go.Xp (Nd Ar)
open Go.Sp (Src)
open Go.Im (Small kz)
def flat (v:Value):Prop:=∀ a n c,v≠.slice a n c
def wZ (W:World) (v:Value) (xs:List Value):Prop:=∃ a c,v=.slice a xs.length c/\(xs=[]\/∃ b o,a=some ⟨b,o,none⟩/\xs.length<=c/\∀ i x,xs[i]?=some x->gN W.heap b (o+i)=some x/\flat x)
theorem wZ.uniq {W:World} {v:Value} {xs ys:List Value} (h:wZ W v xs) (k:wZ W v ys):xs=ys:=by
 obtain ⟨a,c,I,F⟩:=h;obtain ⟨a',c',k1,k2⟩:=k;rw [I] at k1
 injection k1 with e1 e2 e3
 subst e1 e3
 rcases F with rfl | ⟨b,o,h3,h4,h5⟩
 ·exact (List.eq_nil_of_length_eq_zero (by simpa using e2.symm)).symm
 ·rcases k2 with rfl | ⟨b',o',k3,k4,k5⟩
  ·exact List.eq_nil_of_length_eq_zero (by simpa using e2)
  ·rw [h3] at k3;cases k3;apply ext_getElem e2;intro i hi hj;have a1:=(h5 i _ (getElem?_eq_getElem hi)).1;have a2:=(k5 i _ (getElem?_eq_getElem hj)).1;rw [a1] at a2;exact Option.some.inj a2
open Classical in
noncomputable def KW (W:World):Fz:=fun b o=>match gN W.heap b o with
 | none=>none
 | some v=>if ∃ a n c,v=.slice a n c then (if h:∃ xs,wZ W v xs then some (.sl 1 (h.choose.map fun x=>[.v x])) else none) else some (.v v)
theorem mj {W:World} {b o:Nat} {v:Value} (h:gN W.heap b o=some v) (hf:flat v):KW W b o=some (.v v):=by
 unfold KW;rw [h];simp only;rw [if_neg (by rintro ⟨a,n,c,e⟩;exact hf a n c e)]
theorem R3 {W:World} {b o:Nat} {v:Value} {xs:List Value} (h:gN W.heap b o=some v) (hx:wZ W v xs):KW W b o=some (.sl 1 (xs.map fun x=>[.v x])):=by
 have hs:∃ a n c,v=.slice a n c:=by obtain ⟨a,c,e,_⟩:=hx;exact ⟨_,_,_,e⟩
 have hex:∃ xs,wZ W v xs:=⟨xs,hx⟩;unfold KW;rw [h];simp only;rw [if_pos hs,dif_pos hex,hex.choose_spec.uniq hx]
theorem Pc {W:World} {v:Value} {xs:List Value} (hx:wZ W v xs) (β:Bt):Rel (KW W) β v (.sl 1 (xs.map fun x=>[GV.v x])):=by
 obtain ⟨a,c,rfl,h⟩:=hx
 rcases h with rfl | ⟨b,o,rfl,hc,mc⟩
 ·exact .sl0 a c 1
 ·have:=Rel.sl (K:=KW W) (β:=β) b o c 1 (xs.map fun x=>[GV.v x]) (fun i r hr=>by
   rw [getElem?_map] at hr
   cases hi:xs[i]? with
   | none=>rw [hi] at hr;cases hr
   | some x =>
    rw [hi] at hr;cases hr;obtain ⟨I,F⟩:=mc i x hi;refine ⟨rfl,fun j g hg=>?_⟩
    cases j with
    | zero=>cases hg;rw [Nat.mul_one,Nat.add_zero];exact mj I F
    | succ j=>simp at hg) (by rw [length_map];exact hc)
  rw [length_map] at this;exact this
theorem Xy (W:World):nL (KW W) W:=fun b o g h=>by
 unfold KW at h
 cases hc:gN W.heap b o with
 | none=>rw [hc] at h;cases h
 | some v =>
  rw [hc] at h;simp only at h;split at h
  ·split at h
   ·rename_i hex;cases h;exact ⟨rfl,v,rfl,Pc hex.choose_spec _⟩
   ·cases h
  ·cases h;exact ⟨rfl,v,rfl,.v v⟩
theorem Rl {W:World} {v:Value} {k:Nat} {rows:List (List GV)} {a:Option Addr} {n c:Nat} (β:Bt) (hv:v=.slice a n c) (hn:rows.length=n)
  (h:n=0\/∃ b o,a=some ⟨b,o,none⟩/\n<=c/\∀ i r,rows[i]?=some r->r.length=k/\∀ j g,r[j]?=some g->KW W b (o+i * k+j)=some g):Rel (KW W) β v (.sl k rows):=by
 subst hv hn
 rcases h with h | ⟨b,o,rfl,hc,hr⟩
 ·have:=List.eq_nil_of_length_eq_zero h;subst this;exact .sl0 a c k
 ·exact .sl b o c k rows hr hc
theorem A1 {W:World} {a:Addr} {n:Nat} {v:Value} (h:W.cell? (a.add n)=some v):gN W.heap a.block (a.off+n)=some v:=by
 unfold Addr.add at h;split at h
 ·rename_i h0;subst h0;obtain ⟨b,o,s⟩:=a;have hs:=World.cell?_spot h;simp only at hs;subst hs;rw [fP] at h;exact h
 ·obtain ⟨b,o,s⟩:=a;simp only at h;rw [fP] at h;exact h
theorem AZ {W:World} {a:Addr} {v:Value} (h:W.cell? (a.add 0)=some v):a.spot=none:=by
 have:=World.cell?_spot h;unfold Addr.add at this;rw [if_pos rfl] at this;exact this
theorem sj {α:Type} {Q:Nat->α->Prop}:∀ {n:Nat},(∀ i,i < n->∃ x,Q i x)->∃ l:List α,l.length=n/\∀ i x,l[i]?=some x->Q i x
 | 0,_=>⟨[],rfl,fun i x h=>by simp at h⟩
 | n+1,h=>by
  obtain ⟨l,I,F⟩:=sj (n:=n) fun i hi=>h i ag
  obtain ⟨x,hx⟩:=h n ag;refine ⟨l++[x],by simp [I],fun i y hi=>?_⟩
  by_cases qR:i < n
  ·rw [List.getElem?_append_left ag] at hi;exact F i y hi
  ·have ar:=(List.getElem?_eq_some_iff.1 hi).1;rw [length_append,length_cons,length_nil] at ar
   have:i=n:=by omega
   subst this;rw [List.getElem?_append_right ag,I,Nat.sub_self] at hi
   cases hi;exact hx
theorem max_le {n:Nat} (h:n<=maxLen):n<=9223372036854775807:=by unfold maxLen at h;omega
section
variable {H:Type} {enc:TypeId × Value->H} {P:Program} {W:World}
theorem HO {t e:TypeId} {n:Nat} {v:Value} {y:DataW H × List MemPlace} (ht:P.underlying t=some (.slice e)) (he:P.underlying e=some .string) (hc:P.cellsOf e=1) (h:DataW.trod enc P W 0 (fun _=>true) true n t [v]=some y) :
  ∃ l:List ah,wZ W v (l.map sv)/\l.length<=9223372036854775807/\∀ s∈l,s.length<=9223372036854775807:=by
 rcases open_slice1 ht hc h with ⟨fm,_⟩ | ⟨a,len,cap,m,n',V,abe,Pl,fm,_,hl,hm,sD,_,hx⟩
 ·injection fm with hv;subst hv
  exact ⟨[],⟨none,0,rfl,.inl rfl⟩,Nat.zero_le _,fun s h=>by cases h⟩
 ·injection fm with hv _;subst hv
  simp only [if_true] at sD
  obtain ⟨l,I,F⟩:=sj (n:=len) (Q:=fun i (s:ah)=>W.cell? (a.add i)=some (sv s)/\s.length<=9223372036854775807) (fun i hi=>by
   obtain ⟨c1,c2⟩:=hx i ag;obtain ⟨s,hs,_,hz⟩:=DataW.trod_string he c2
   injection hs with hs _
   rw [hs] at c1
   exact ⟨s.data.toList,by rw [<-F1];exact c1,max_le hz⟩)
  refine ⟨l,⟨some a,cap,by rw [length_map,I],?_⟩,by rw [I];exact max_le (Nat.le_trans hl hm),fun s hs=>?_⟩
  ·by_cases h0:len=0
   ·have:l=[]:=List.eq_nil_of_length_eq_zero ag;subst this;exact .inl rfl
   ·refine .inr ⟨a.block,a.off,?_,by rw [length_map,I];exact hl,fun i x hi=>?_⟩
    ·have vl:l[0]?=some (l[0]'ag):=getElem?_eq_getElem _;have:=AZ (F 0 _ vl).1;obtain ⟨b,o,s⟩:=a;simp only at this;rw [this]
    ·rw [getElem?_map] at hi
     cases uy:l[i]? with
     | none=>rw [uy] at hi;cases hi
     | some s =>
      rw [uy] at hi;cases hi;exact ⟨A1 (F i s uy).1,fun a n c e=>by cases e⟩
  ·obtain ⟨i,hi⟩:=List.getElem?_of_mem hs;exact (F i s hi).2
theorem Rb {t e:TypeId} {n:Nat} {v:Value} {y:DataW H × List MemPlace} (ht:P.underlying t=some (.slice e)) (he:P.underlying e=some (.int .i64)) (hc:P.cellsOf e=1) (h:DataW.trod enc P W 0 (fun _=>true) true n t [v]=some y) :
  ∃ l:List Int,wZ W v (l.map ii)/\l.length<=9223372036854775807:=by
 rcases open_slice1 ht hc h with ⟨fm,_⟩ | ⟨a,len,cap,m,n',V,abe,Pl,fm,_,hl,hm,sD,_,hx⟩
 ·injection fm with hv;subst hv
  exact ⟨[],⟨none,0,rfl,.inl rfl⟩,Nat.zero_le _⟩
 ·injection fm with hv _;subst hv
  simp only [if_true] at sD
  obtain ⟨l,I,F⟩:=sj (n:=len) (Q:=fun i (z:Int)=>W.cell? (a.add i)=some (ii z)) (fun i hi=>by
   obtain ⟨c1,c2⟩:=hx i ag;obtain ⟨z,hs,_,hz⟩:=DataW.trod_int he c2
   injection hs with hs _
   rw [hs] at c1
   exact ⟨z,c1⟩)
  refine ⟨l,⟨some a,cap,by rw [length_map,I],?_⟩,by rw [I];exact max_le (Nat.le_trans hl hm)⟩
  by_cases h0:len=0
  ·have:l=[]:=List.eq_nil_of_length_eq_zero ag;subst this;exact .inl rfl
  ·refine .inr ⟨a.block,a.off,?_,by rw [length_map,I];exact hl,fun i x hi=>?_⟩
   ·have vl:l[0]?=some (l[0]'ag):=getElem?_eq_getElem _;have:=AZ (F 0 _ vl);obtain ⟨b,o,s⟩:=a;simp only at this;rw [this]
   ·rw [getElem?_map] at hi
    cases uy:l[i]? with
    | none=>rw [uy] at hi;cases hi
    | some s =>
     rw [uy] at hi;cases hi;exact ⟨A1 (F i s uy),fun a n c e=>by cases e⟩
theorem BZ {α:Type} {t e:TypeId} {fs:Array Field} {k n:Nat} {v:Value} {y:DataW H × List MemPlace} (f:α->List GV) (Q:α->Prop) (β:Bt) (ht:P.underlying t=some (.slice e)) (he:P.underlying e=some (.struct fs)) (iD:oneCellFields P fs=true) (hC:P.cellsOf e=k) (hk:fs.size=k) (AD:0 < k)
  (each:∀ b o,(∀ (j:Nat) (fl:Field),fs[j]?=some fl->∃ v y n,gN W.heap b (o+j)=some v/\DataW.trod enc P W 0 (fun _=>true) true n fl.type [v]=some y)->∃ x,Q x/\(f x).length=k/\∀ j g,(f x)[j]?=some g->KW W b (o+j)=some g)
  (h:DataW.trod enc P W 0 (fun _=>true) true n t [v]=some y):∃ l:List α,Rel (KW W) β v (.sl k (l.map f))/\l.length<=9223372036854775807/\∀ x∈l,Q x:=by
 rcases open_slice ht h with ⟨fm,_⟩ | ⟨a,len,cap,m,n',abe,Pl,fm,_,hl,hm,sD,_,hx⟩
 ·injection fm with hv;subst hv
  exact ⟨[],.sl0 none 0 k,Nat.zero_le _,fun s h=>by cases h⟩
 ·injection fm with hv _;subst hv
  simp only [if_true] at sD
  have mc:∀ i,i < len->∀ (j:Nat) (fl:Field),fs[j]?=some fl->∃ v y n,W.cell? (a.add (i * k+j))=some v/\DataW.trod enc P W 0 (fun _=>true) true n fl.type [v]=some y:=by
   intro i hi j fl hj;obtain ⟨Ap,hc,th⟩:=hx i ag;rw [hC] at hc;obtain ⟨ys,n',CH,hy,hlen,Ol,hf⟩:=DataW.trod_struct he th;obtain ⟨_,vj,pF⟩:=World.cells?_some hc;obtain ⟨ho,vk⟩:=hone_of iD j fl hj;have pH:j < fs.size:=(Array.getElem?_eq_some_iff.1 hj).1;have mc:=pF j ag;have hv:Ap[j]?=some (Ap[j]'ag):=getElem?_eq_getElem ag;have I:=hf j fl hj;rw [ho,vk] at I
   have XY:(Ap.drop j).take 1=[Ap[j]'ag]:=by
    rw [List.drop_eq_getElem_cons ag];rfl
   rw [XY] at I;have SW:ys[j]?=some (ys[j]'ag):=getElem?_eq_getElem ag;refine ⟨_,_,_,?_,I.trans SW⟩;rw [<-Go.Deep.add_add,mc,hv]
  obtain ⟨l,I,F⟩:=sj (n:=len) (Q:=fun i x=>Q x/\(f x).length=k/\∀ j g,(f x)[j]?=some g->KW W a.block (a.off+i * k+j)=some g) (fun i hi =>
   each a.block (a.off+i * k) fun j fl hj=>by
    obtain ⟨v,y,n,c1,c2⟩:=mc i hi j fl hj
    exact ⟨v,y,n,by rw [Nat.add_assoc];exact A1 c1,c2⟩)
  refine ⟨l,Rl (n:=len) (c:=cap) β rfl (by rw [length_map,I]) ?_,by rw [I];exact max_le (Nat.le_trans hl hm),fun x hx=>?_⟩
  ·by_cases h0:len=0
   ·exact .inl h0
   ·refine .inr ⟨a.block,a.off,?_,hl,fun i r hr=>?_⟩
    ·obtain ⟨v,y,n,c1,c2⟩:=mc 0 ag 0 (fs[0]'ag) (Array.getElem?_eq_getElem ag);rw [Nat.zero_mul,Nat.add_zero] at c1;have:=AZ c1;obtain ⟨b,o,s⟩:=a;simp only at this;rw [this]
    ·rw [getElem?_map] at hr
     cases uy:l[i]? with
     | none=>rw [uy] at hr;cases hr
     | some x =>
      rw [uy] at hr;cases hr;exact (F i x uy).2
  ·obtain ⟨i,hi⟩:=List.getElem?_of_mem hx;exact (F i x hi).1
end
theorem Ie (l:List ah):GV.sl 1 ((l.map sv).map fun x=>[GV.v x])=strs l:=by rw [map_map];rfl
theorem QJ (l:List Int):GV.sl 1 ((l.map ii).map fun x=>[GV.v x])=ints l:=by rw [map_map];rfl
theorem wf_i64 {z:Int} (h:(Lit.int .i64 z).wf=true) : -9223372036854775808<=z/\z<=9223372036854775807:=by
 simp only [Lit.wf,Bool.and_eq_true,decide_eq_true_eq] at h
 have I:IntKind.min .i64 = -9223372036854775808:=by decide
 have F:IntKind.max .i64=9223372036854775807:=by decide
 rw [I,F] at h;exact h
theorem wb (z:Int):flat (ii z):=fun a n c e=>by cases e
section
variable {H:Type} {enc:TypeId × Value->H} {W:World}
theorem xI (β:Bt) {v:Value} {d:DataW H} {ps:List MemPlace} {r:Reach} {b0:Nat} (hv:Value.okWide Tryz.prog W r b0 27 v) (h:DataW.Trod enc Tryz.prog W 0 (fun _=>true) true 27 v d ps) :
  ∃ p:Src,Rel (KW W) β v (.agg (ao p))/\Small p 9223372036854775807/\kz p:=by
 obtain ⟨v0,v1,v2,v3,y0,y1,y2,y3,n,rfl,_,_,h0,I,F,h3⟩:=Go.Joins.open_agg4 Tryz.underlying27 (by kernel_rfl) (by kernel_rfl) hv h
 have c9:Tryz.prog.cellsOf 9=1:=by kernel_rfl
 have c3:Tryz.prog.cellsOf 3=1:=by kernel_rfl
 obtain ⟨gs,g1,g2,g3⟩:=HO Tryz.underlying22 Tryz.underlying9 c9 h0
 obtain ⟨YI,a1,a2,a3⟩:=BZ aL (fun x=>x.name.length<=9223372036854775807 /\ -9223372036854775808<=x.size/\x.size<=9223372036854775807) β Tryz.underlying23 Tryz.underlying63 (by kernel_rfl) (k:=2) (by kernel_rfl) rfl ag (fun b o hf=>by
  obtain ⟨u0,z0,n0,x0,w0⟩:=hf 0 _ rfl;obtain ⟨u1,z1,n1,x1,w1⟩:=hf 1 _ rfl;obtain ⟨s,hs,_,hz⟩:=DataW.trod_string Tryz.underlying9 w0;obtain ⟨z,gk,_,Zj⟩:=DataW.trod_int Tryz.underlying3 w1
  injection hs with hs _
  injection gk with gk _
  subst hs gk;refine ⟨⟨s.data.toList,z⟩,⟨max_le hz,wf_i64 Zj⟩,rfl,fun j g hg=>?_⟩
  match j,hg with
  | 0,hg=>cases hg;rw [<-F1];exact mj x0 fun a n c e=>by cases e
  | 1,hg=>cases hg;exact mj x1 (wb z)
  | j+2,hg=>simp [aL] at hg) I
 obtain ⟨fs,c8,lk,qa⟩:=BZ ay (fun x=>x.name.length<=9223372036854775807/\x.params.length<=9223372036854775807/\∀ s∈x.params,s.length<=9223372036854775807) β Tryz.underlying24 Tryz.underlying66 (by kernel_rfl) (k:=3) (by kernel_rfl) rfl ag (fun b o hf=>by
  obtain ⟨u0,z0,n0,x0,w0⟩:=hf 0 _ rfl;obtain ⟨u1,z1,n1,x1,w1⟩:=hf 1 _ rfl;obtain ⟨u2,z2,n2,x2,w2⟩:=hf 2 _ rfl;obtain ⟨s,hs,_,hz⟩:=DataW.trod_string Tryz.underlying9 w0;obtain ⟨l,gX,kE,Y1⟩:=HO Tryz.underlying22 Tryz.underlying9 c9 w1;obtain ⟨z,gk,_,Zj⟩:=DataW.trod_int Tryz.underlying3 w2
  injection hs with hs _
  injection gk with gk _
  subst hs gk;refine ⟨⟨s.data.toList,l,z⟩,⟨max_le hz,kE,Y1⟩,rfl,fun j g hg=>?_⟩
  match j,hg with
  | 0,hg=>cases hg;rw [<-F1];exact mj x0 fun a n c e=>by cases e
  | 1,hg=>cases hg;rw [R3 x1 gX,Ie]
  | 2,hg=>cases hg;exact mj x2 (wb z)
  | j+3,hg=>simp [ay] at hg) F
 obtain ⟨ns,k1,k2,k3⟩:=BZ aB (fun x=>(x.s.length<=9223372036854775807/\x.kids.length<=9223372036854775807) /\ -9223372036854775808<=x.n/\x.n<=9223372036854775807) β Tryz.underlying25 Tryz.underlying68 (by kernel_rfl) (k:=5) (by kernel_rfl) rfl ag (fun b o hf=>by
  obtain ⟨u0,z0,n0,x0,w0⟩:=hf 0 _ rfl;obtain ⟨u1,z1,n1,x1,w1⟩:=hf 1 _ rfl;obtain ⟨u2,z2,n2,x2,w2⟩:=hf 2 _ rfl;obtain ⟨u3,z3,n3,x3,w3⟩:=hf 3 _ rfl;obtain ⟨u4,z4,n4,x4,w4⟩:=hf 4 _ rfl;obtain ⟨i0,e0,_,_⟩:=DataW.trod_int Tryz.underlying3 w0;obtain ⟨i1,e1,_,_⟩:=DataW.trod_int Tryz.underlying3 w1;obtain ⟨i2,e2,_,q2⟩:=DataW.trod_int Tryz.underlying3 w2;obtain ⟨s,hs,_,hz⟩:=DataW.trod_string Tryz.underlying9 w3;obtain ⟨l,gX,kE⟩:=Rb Tryz.underlying46 Tryz.underlying3 c3 w4
  injection e0 with e0 _
  injection e1 with e1 _
  injection e2 with e2 _
  injection hs with hs _
  subst hs e0 e1 e2;refine ⟨⟨i0,i1,i2,s.data.toList,l⟩,⟨⟨max_le hz,kE⟩,wf_i64 q2⟩,rfl,fun j g hg=>?_⟩
  match j,hg with
  | 0,hg=>cases hg;exact mj x0 (wb _)
  | 1,hg=>cases hg;exact mj x1 (wb _)
  | 2,hg=>cases hg;exact mj x2 (wb _)
  | 3,hg=>cases hg;rw [<-F1];exact mj x3 fun a n c e=>by cases e
  | 4,hg=>cases hg;rw [R3 x4 gX,QJ]
  | j+5,hg=>simp [aB] at hg) h3
 have r0:=Pc g1 β;rw [Ie] at r0;refine ⟨⟨gs,YI,fs,ns⟩,?_,⟨⟨g2,g3⟩,⟨a2,fun x hx=>(a3 x hx).1⟩,⟨lk,qa⟩,⟨k2,fun x hx=>(k3 x hx).1⟩⟩,⟨fun x hx=>(a3 x hx).2,fun x hx=>(k3 x hx).2⟩⟩;have hc:bg (KW W) β [v0,v1,v2,v3] (ao ⟨gs,YI,fs,ns⟩):=.cons r0 (.cons a1 (.cons c8 (.cons k1 .nil)));exact .agg [v0,v1,v2,v3] _ hc.1 hc.2
end
end Go.Xg
namespace Go.Xg
open Go.RowKit Go.Xw Go.Proofs Go.Lib
theorem Ps {P:Program} {W:World} {name:String} {k:IntKind} {zs:List Int} {g:Nat} {t e:TypeId} {n:Nat}
  (hg:P.globalNamed name=some g) (hty:(P.globals[g]?).map (·.type)=some t) (ht:P.underlying t=some (.array n e)) (he:P.underlying e=some (.int k)) (NY:P.cellsOf e=1) (hct:P.cellsOf t=n)
  (h:VarReads P W name (tabData k zs)):TabIs P W name k zs:=by
 obtain ⟨g',t',cs,fuel,p,la,th,aap,hd⟩:=h;obtain rfl:=Option.some.inj (hg.symm.trans la);obtain rfl:=Option.some.inj (hty.symm.trans th);unfold TabIs;rw [aap,<-cells_of_tab ht he NY hct hd]
theorem KP {P:Program} {W:World} {name:String} {k:IntKind} {zs:List Int} {g n:Nat} (hg:P.globalNamed name=some g) (hn:zs.length=n) (h:TabIs P W name k zs):uc W g n:=by
 unfold TabIs World.var? at h;rw [hg] at h;simp only [Option.bind_some] at h
 cases hb:W.heap[g]? with
 | none=>rw [hb] at h;cases h
 | some o =>
  rw [hb] at h
  cases o with
  | cells cs E z =>
   simp only [Option.some.injEq] at h;exact ⟨cs,E,z,hb,by rw [h];simpa using hn⟩
  | _=>cases h
theorem MJ {P:Program} {W:World} {name:String} {k:IntKind} {zs:List Int} {g:Nat} (hg:P.globalNamed name=some g) (h:TabIs P W name k zs) {o:Nat} {z:Int} (ho:zs[o]?=some z):KW W g o=some (.v (.int k z)):=by
 have ar:=(List.getElem?_eq_some_iff.1 ho).1;have hc:=h.cell hg o ar;rw [List.getD_eq_getElem?_getD,ho,fP] at hc
 exact mj hc fun a n c e=>by cases e
theorem z6 {W:World} (hp:VarReads Tryz.prog W "internal/strconv.uint64pow10" (tabData .u64 wH)) (hs:VarReads Tryz.prog W "strings.asciiSpace" (tabData .u8 wO)) (hW:W.ShapedOpen Tryz.prog):jl (KW W) (fun _=>.no) W:=by
 have gp:Tryz.prog.globalNamed "internal/strconv.uint64pow10" = some 1:=by kernel_rfl
 have gs:Tryz.prog.globalNamed "strings.asciiSpace" = some 2:=by kernel_rfl
 have tp:=Ps gp (t:=254) (by kernel_rfl) Tryz.underlying254 (k:=.u64) (by kernel_rfl) (by kernel_rfl) (by kernel_rfl) hp;have ts:=Ps gs (t:=256) (by kernel_rfl) Tryz.underlying256 (k:=.u8) (by kernel_rfl) (by kernel_rfl) (by kernel_rfl) hs;obtain ⟨m,hm⟩:=cell_of_shapedOpen_int (g:=0) (zero:=#[.int .i64 0]) (t:=3) hW (of_decide_eq_true (by kernel_rfl)) (by kernel_rfl) rfl (by kernel_rfl) (by kernel_rfl) Tryz.underlying3;rw [fP] at hm;refine ⟨⟨m,fun b o g h=>?_⟩,KP gp aM tp,KP gs aM ts,fun i b h=>by cases h⟩;unfold yg at h;split at h
 ·rename_i hb;subst hb;split at h
  ·cases h;exact mj hm fun a n c e=>by cases e
  ·cases h
 ·split at h
  ·rename_i hb;subst hb
   cases ho:wH[o]? with
   | none=>rw [ho] at h;cases h
   | some z=>rw [ho] at h;cases h;exact MJ gp tp ho
  ·split at h
   ·rename_i hb;subst hb
    cases ho:wO[o]? with
    | none=>rw [ho] at h;cases h
    | some z=>rw [ho] at h;cases h;exact MJ gs ts ho
   ·cases h
theorem GF.calls {P:Program} {f:FuncId} {gs:List GV} {g:GV} (h:GF P f gs [] g []) {W:World} {vs:List Value} (hv:bg (KW W) (fun _=>.no) vs gs) (hT:jl (KW W) (fun _=>.no) W) :
  nm P f vs W fun v w'=>Below W.heap.size W w'/\∃ K β,Rel K β v g:=by
 have hI:Inv ⟨W,jc,KW W,fun _=>.no,0⟩ (KW W) (fun _=>.no) [] W :=
  ⟨Ext.refl W,c6.refl _,dJ.refl _,fun _ _=>rfl,Xy W,fun i x h=>by simp at h,fun _ _=>rfl,fun i j b h=>(by cases h),fun i b h=>(by cases h),fun b o g h=>.inl h,hT⟩
 refine (h ⟨W,jc,KW W,fun _=>.no,0⟩ (KW W) (fun _=>.no) W vs rfl hI hv).mono ?_;rintro v w' ⟨K',ca,x,aS,I,F,rfl,rfl⟩;exact ⟨I.ext.below,K',ca,F⟩
end Go.Xg
namespace Go.Xg
open GV (U)
open Go.RowKit Go.Xw Go.Proofs Tryz
open Go.Xp (Tok Nd T)
open Go.Sp
attribute [local irreducible] GW GL GO YG GC GA ba bc
theorem ue {α:Type} {l:List α} {q:α->Bool} {k:Nat} {x:α} (hx:l[k]?=some x) (hf:(l.take k).all q=true) (hb:q x=true):(l.take (k+1)).all q=true:=by
 rw [cq,hx,List.all_append,hf];simp [hb]
def idxOf (xs:List ah) (s:ah):Int:=match xs.findIdx? (fun x=>s==x) with | some i=>(i:Int) | none => -1
theorem Tw (xs:List ah) (s:ah) (hl:xs.length<=1099511627776):GF prog 129 [strs xs,.v (sv s)] [] (.v (ii (idxOf xs s))) []:=by
 refine ai func129 ntmps129 ?_;refine GW.range (xs.map fun s=>[GV.v (sv s)]).length (fun k fr Γ=>fr=[strs xs,.v (sv s),U,U,U,U,strs xs,.v (ii ((xs.map fun s=>[GV.v (sv s)]).length:Int)),.v (ii (k:Nat)),U,U,U,U,U,U,U,U,U,U]/\Γ=[]/\((xs.take k).all fun x=>!(s==x))=true) ?_ (by simpa using hl) ?_ ?_ ?_
 ·exact jW
 ·exact ig
 ·rintro k _ _ ar ⟨rfl,rfl,hc⟩
  have ar:k < xs.length:=by simpa using ar
  have hx:xs[k]?=some xs[k]:=by simp [ar]
  have hr:(xs.map fun s=>[GV.v (sv s)])[k]?=some [.v (sv xs[k])]:=by simp [ar]
  cases hb:(s==xs[k]) with
  | true =>
   have hi:xs.findIdx? (fun x=>s==x)=some k:=by
    rw [List.findIdx?_eq_some_iff_getElem];refine ⟨ar,hb,fun j hj=>?_⟩;rw [fE] at hc;have:=hc xs[j] (by rw [List.mem_take_iff_getElem];exact ⟨j,by omega,rfl⟩);simpa using this
   unfold idxOf;rw [hi];generalize xs[k]=x at *;exact ax
  | false =>
   have sk:=ue (q:=fun x=>!(s==x)) hx hc (by rw [hb];rfl);generalize xs[k]=x at *;refine G ?_;exact ⟨rfl,rfl,_,_,Wk.aK av,rfl,rfl,sk⟩
 ·rintro _ _ ⟨rfl,rfl,hc⟩;rw [jS (by simp)] at hc
  have hi:xs.findIdx? (fun x=>s==x)=none:=by
   rw [List.findIdx?_eq_none_iff];intro x hx;rw [fE] at hc;have:=hc x hx;simpa using this
  unfold idxOf;rw [hi];exact ax
theorem QG (xs:List ah) (s:ah):decide (0<=idxOf xs s)=xs.contains s:=by
 unfold idxOf
 cases h:xs.findIdx? (fun x=>s==x) with
 | some i =>
  rw [List.findIdx?_eq_some_iff_getElem] at h;obtain ⟨I,F,_⟩:=h
  have h3:s=xs[i]:=by simpa using F
  have:xs.contains s=true:=by rw [ej,h3];exact getElem_mem _
  rw [this];simp
 | none =>
  rw [List.findIdx?_eq_none_iff] at h
  have:xs.contains s=false:=by
   cases hc:xs.contains s with
   | false=>rfl
   | true=>have:=h s (ej.1 hc);simp at this
  rw [this];rfl
theorem lx (xs:List ah) (s:ah) (hl:xs.length<=1099511627776):GF prog 98 [strs xs,.v (sv s)] [] (.v (.bool (xs.contains s))) []:=by
 have hi:=Tw xs s hl;rw [<-QG];generalize idxOf xs s=i at *;refine ai func98 ntmps98 ?_;refine D [] hi ?_;exact ak
end Go.Xg
set_option maxHeartbeats 2000000
namespace Go.Xg
open GV (U)
open Go.RowKit Go.Xw Go.Proofs Tryz
open Go.Xp (Nd T Ar)
open Go.Sp (Src)
open Go.Im
attribute [local irreducible] GW GL GO YG GC GA ba bc
theorem OC (s:ah):GF prog 97 [.v (sv s)] [] (.v (.bool (mY s))) []:=by
 unfold mY pV pW cD
 cases I:(s==[103,101,116])
 all_goals cases F:(s==[112,117,116])
 all_goals
  refine ai func97 ntmps97 ?_;exact ak
theorem F6 {qw:FuncId} [aI prog qw] (pr:Go.Sp.Fn->Bool) (l:List (Go.Sp.Fn)) (hn:l.length<=1099511627776) (hc:∀ x∈l,GF prog qw [.agg (ay x)] [] (.v (.bool (pr x))) []) :
  GF prog 56 [.sl 3 (l.map ay),.v (.func (.func qw) #[] #[])] [] (.v (ii (cr pr l))) []:=by
 have eL:(l.map ay).length=l.length:=by simp
 refine ai func56 ntmps56 ?_;refine GW.range (l.map ay).length (fun k fr Γ=>fr=[.sl 3 (l.map ay),.v (.func (.func qw) #[] #[]),U,U,U,U,U,.v (ii ((l.map ay).length:Int)),.v (ii (k:Nat)),U,U,U,U,U,U,U,U,U,U]/\Γ=[]/\(l.take k).all (fun y=>!pr y)=true) ?_ ag ?_ ?_ ?_
 ·exact jW
 ·exact ig
 ·rintro k _ _ ar ⟨rfl,rfl,aY⟩;rw [eL] at ar;obtain ⟨x,de⟩:∃ x,l[k]?=some x:=⟨l[k],by simp [ar]⟩
  have hr:(l.map ay)[k]?=some (ay x):=by rw [aV,de];rfl
  have h:=hc x (bm de);have bB:=mU (f:=pr) de
  have hit:=fun h0=>oR (f:=pr) de h0 aY
  unfold ay at hr h
  cases hb:pr x with
  | true =>
   rw [hb] at h;rw [hit hb];refine G ?_;refine ju [] h ?_;exact ax
  | false =>
   rw [hb] at h bB;refine G ?_;refine ju [] h ?_;refine G ?_;exact ⟨rfl,rfl,_,_,Wk.aK av,rfl,rfl,by rw [bB,aY];rfl⟩
 ·rintro _ _ ⟨rfl,rfl,aY⟩;rw [eL,cy] at aY;rw [lX aY];exact ax
theorem va {qw:FuncId} [aI prog qw] (pr:Go.Sp.Fn->Bool) (l:List (Go.Sp.Fn)) (hn:l.length<=1099511627776) (hc:∀ x∈l,GF prog qw [.agg (ay x)] [] (.v (.bool (pr x))) []) :
  GF prog 100 [.sl 3 (l.map ay),.v (.func (.func qw) #[] #[])] [] (.v (.bool (l.any pr))) []:=by
 have h:=F6 pr l hn hc;rw [<-EO];generalize cr pr l=z at *;refine ai func100 ntmps100 ?_;refine D [] h ?_;exact ak
theorem FJ {qw:FuncId} [aI prog qw] (pr:Go.Sp.Fn->Bool) (s:ah) (l:List (Go.Sp.Fn)) (hn:l.length<=1099511627776) (hc:∀ x∈l,GF prog qw [.agg (ay x),.box [.v (sv s)] 0] [] (.v (.bool (pr x))) []) :
  GF prog 56 [.sl 3 (l.map ay),.fn (.func qw) [] [.box [.v (sv s)] 0]] [] (.v (ii (cr pr l))) []:=by
 have eL:(l.map ay).length=l.length:=by simp
 refine ai func56 ntmps56 ?_;refine GW.range (l.map ay).length (fun k fr Γ=>fr=[.sl 3 (l.map ay),.fn (.func qw) [] [.box [.v (sv s)] 0],U,U,U,U,U,.v (ii ((l.map ay).length:Int)),.v (ii (k:Nat)),U,U,U,U,U,U,U,U,U,U]/\Γ=[]/\(l.take k).all (fun y=>!pr y)=true) ?_ ag ?_ ?_ ?_
 ·exact jW
 ·exact ig
 ·rintro k _ _ ar ⟨rfl,rfl,aY⟩;rw [eL] at ar;obtain ⟨x,de⟩:∃ x,l[k]?=some x:=⟨l[k],by simp [ar]⟩
  have hr:(l.map ay)[k]?=some (ay x):=by rw [aV,de];rfl
  have h:=hc x (bm de);have bB:=mU (f:=pr) de
  have hit:=fun h0=>oR (f:=pr) de h0 aY
  unfold ay at hr h
  cases hb:pr x with
  | true =>
   rw [hb] at h;rw [hit hb];refine G ?_;refine kT [] h ?_;exact ax
  | false =>
   rw [hb] at h bB;refine G ?_;refine kT [] h ?_;refine G ?_;exact ⟨rfl,rfl,_,_,Wk.aK av,rfl,rfl,by rw [bB,aY];rfl⟩
 ·rintro _ _ ⟨rfl,rfl,aY⟩;rw [eL,cy] at aY;rw [lX aY];exact ax
theorem FI {qw:FuncId} [aI prog qw] (pr:Ar->Bool) (s:ah) (l:List (Ar)) (hn:l.length<=1099511627776) (hc:∀ x∈l,GF prog qw [.agg (aL x),.box [.v (sv s)] 0] [] (.v (.bool (pr x))) []) :
  GF prog 219 [.sl 2 (l.map aL),.fn (.func qw) [] [.box [.v (sv s)] 0]] [] (.v (ii (cr pr l))) []:=by
 have eL:(l.map aL).length=l.length:=by simp
 refine ai func219 ntmps219 ?_;refine GW.range (l.map aL).length (fun k fr Γ=>fr=[.sl 2 (l.map aL),.fn (.func qw) [] [.box [.v (sv s)] 0],U,U,U,U,U,.v (ii ((l.map aL).length:Int)),.v (ii (k:Nat)),U,U,U,U,U,U,U,U,U,U]/\Γ=[]/\(l.take k).all (fun y=>!pr y)=true) ?_ ag ?_ ?_ ?_
 ·exact jW
 ·exact ig
 ·rintro k _ _ ar ⟨rfl,rfl,aY⟩;rw [eL] at ar;obtain ⟨x,de⟩:∃ x,l[k]?=some x:=⟨l[k],by simp [ar]⟩
  have hr:(l.map aL)[k]?=some (aL x):=by rw [aV,de];rfl
  have h:=hc x (bm de);have bB:=mU (f:=pr) de
  have hit:=fun h0=>oR (f:=pr) de h0 aY
  unfold aL at hr h
  cases hb:pr x with
  | true =>
   rw [hb] at h;rw [hit hb];refine G ?_;refine kT [] h ?_;exact ax
  | false =>
   rw [hb] at h bB;refine G ?_;refine kT [] h ?_;refine G ?_;exact ⟨rfl,rfl,_,_,Wk.aK av,rfl,rfl,by rw [bB,aY];rfl⟩
 ·rintro _ _ ⟨rfl,rfl,aY⟩;rw [eL,cy] at aY;rw [lX aY];exact ax
theorem TV (x:Go.Sp.Fn) (s:ah):GF prog 57 [.agg (ay x),.box [.v (sv s)] 0] [] (.v (.bool (x.name==s))) []:=by
 unfold ay;refine ai func57 ntmps57 ?_;exact ak
theorem yw (p:Src) (s:ah) (hn:p.fns.length<=1099511627776):GF prog 36 [.agg (ao p),.v (sv s)] [] (.v (ii (cr (fun x:Go.Sp.Fn=>x.name==s) p.fns))) []:=by
 have h:=FJ (fun x:Go.Sp.Fn=>x.name==s) s p.fns hn (fun x _=>TV x s);generalize cr (fun x:Go.Sp.Fn=>x.name==s) p.fns=z at *;refine dT func36 ntmps36 ?_;refine jv ?_;refine GL.wk (Wk.freeze (i:=1) rfl rfl rfl (aX _)) ?_;refine GN (by simp only [om,nM];rfl) ?_;refine G ?_;refine D [] h ?_;exact ak
theorem Lj (x:Ar) (s:ah):GF prog 220 [.agg (aL x),.box [.v (sv s)] 0] [] (.v (.bool (x.name==s))) []:=by
 unfold aL;refine ai func220 ntmps220 ?_;exact ak
theorem Ez (p:Src) (s:ah) (hn:p.arrays.length<=1099511627776):GF prog 172 [.agg (ao p),.v (sv s)] [] (.v (ii (cr (fun x:Ar=>x.name==s) p.arrays))) []:=by
 have h:=FI (fun x:Ar=>x.name==s) s p.arrays hn (fun x _=>Lj x s);generalize cr (fun x:Ar=>x.name==s) p.arrays=z at *;refine dT func172 ntmps172 ?_;refine jv ?_;refine GL.wk (Wk.freeze (i:=1) rfl rfl rfl (aX _)) ?_;refine GN (by simp only [om,nM];rfl) ?_;refine G ?_;refine D [] h ?_;exact ak
theorem Mu (x:Go.Sp.Fn):GF prog 130 [.agg (ay x)] [] (.v (.bool (decide (x.params.length > 40)))) []:=by
 have h:decide ((40:Int) < ((x.params.map fun s=>[GV.v (sv s)]).length:Int))=decide (x.params.length > 40):=by
  rw [bS];exact decide_eq_decide.2 ag
 rw [<-h];unfold ay strs;refine ai func130 ntmps130 ?_;exact ak
theorem PY (x:Go.Sp.Fn):GF prog 101 [.agg (ay x)] [] (.v (.bool (nA x))) []:=by
 have h:(((x.params.map fun s=>[GV.v (sv s)]).length:Int)==0)=(x.params.length==0):=by
  rw [bS];exact Bool.eq_iff_iff.2 (by simp)
 unfold nA fA;rw [<-h];unfold ay strs
 cases I:(x.name==[109,97,105,110])
 all_goals
  refine ai func101 ntmps101 ?_;exact ak
end Go.Xg
namespace Go.Xg
open Go.RowKit Go.Xw
theorem xv (n:Int):bits .and .i64 n 4294967295=n % 4294967296:=by
 have h:(BitVec.ofInt 64 4294967295).toNat=2 ^ 32 - 1:=by decide
 have key:(BitVec.ofInt 64 n &&& BitVec.ofInt 64 4294967295).toNat=(n % ((2 ^ 64:Nat):Int)).toNat % 2 ^ 32:=by
  rw [BitVec.toNat_and,BitVec.toNat_ofInt,h,Nat.and_two_pow_sub_one_eq_mod]
 show IntKind.i64.wrap ((BitVec.ofInt 64 n &&& BitVec.ofInt 64 4294967295).toNat:Nat)=n % 4294967296;rw [key,IntKind.wrap_i64];omega
section
variable {P:Program} {fr:List GV} {Γ:List Ob}
theorem YG.xv {x y:Operand} {t t':TypeId} {a:Int} (hx:a6 fr x=.v (ii a)) (hy:a6 fr y=.v (ii 4294967295)):YG P (.binOp .and t x y t') fr Γ (.v (ii (a % 4294967296))) :=
 YG.v2 hx hy fun l w h k d ty pos af=>by
  simp [execOp,eqGuard,h,k,binOp,intBits_and,Go.Xg.xv]
end
end Go.Xg
namespace Go.Xw
open Go.RowKit
class Em (P:Program) (t:TypeId) (e:outParam TypeId):Prop where
 is:P.underlying t=some (.slice e)/\∃ i,P.info? e=some i/\i.zero=some (.int .u8 0)/\i.size=1/\i.bytes=1
def R6 (P:Program) (t e:TypeId):Bool :=
 (match P.underlying t with | some (.slice e')=>e'==e | _=>false)&&(match P.info? e with | some i=>(match i.zero with | some (.int .u8 0)=>true | _=>false)&&i.size==1&&i.bytes==1 | none=>false)
theorem Em.mk' {P:Program} {t e:TypeId} (h:R6 P t e=true):Em P t e:=by
 unfold R6 at h;rw [aE] at h;obtain ⟨I,F⟩:=h;refine ⟨?_,?_⟩
 ·split at I
  ·rename_i e' hu;rw [hu];simp at I;rw [I]
  ·cases I
 ·split at F
  ·rename_i i hi;simp only [aE,beq_iff_eq] at F;obtain ⟨⟨h4,h5⟩,h6⟩:=F;split at h4
   ·rename_i hz;exact ⟨i,hi,hz,h5,h6⟩
   ·cases h4
  ·cases F
section
variable {P:Program} {Q:ml} {l:List Value} {w:World} {ops:Array Oper} {rest:List Oper} {d:Option Tmp} {ty:TypeId} {pos:String} {af:Array Edge}
def ly (s:ah):List Value:=s.map fun c=>.int .u8 (c.toNat:Int)
theorem WL.Du {s x:Operand} {t u e:Nat} [hT:Em P t e] [hU:qJ P u] {base n:Nat} {xs:List Value} {v:Value} {str:ah} (hs:ev l s=v) (fg:iH w base e 1 v n xs) (hx:ev l x=sv str)
  (yH:n+str.length<=140737488355328) (CE:base<=w.heap.size)
  (h:∀ v' w',iH w' base e 1 v' (n+str.length) (xs++ly str)->Ext (fun b=>v.ownBlock=some b) w w'->(∀ b,v'.ownBlock=some b->v.ownBlock=some b\/w.heap.size<=b)->(Ext jc w w'\/v'.ownBlock=v.ownBlock)->WL P ops Q rest (put l d v') w') :
  WL P ops Q (⟨d,.call ⟨.builtin .append,#[s,x],#[t,u]⟩,ty,pos,af,none⟩::rest) l w:=by
 obtain ⟨hu,i,hi,hz,cB,yG⟩:=hT.is;have gD:=hU.und
 have rE:(⟨str.toArray⟩:ByteArray).size=str.length:=by simp [ByteArray.size]
 have fm:Lib.strCells ⟨str.toArray⟩=ly str:=by simp [Lib.strCells,ly]
 obtain ⟨v',w',hr,F,h3,h4⟩:=Lib.run_append_own_string (P:=P) w base t u ty e i hu gD hi hz cB yG v n xs fg ⟨str.toArray⟩ (by rw [rE];simp only [maxLen];omega) (by rw [rE];omega) CE;rw [rE,fm] at F;rw [rE] at h4;have gU:Ext (fun b=>v.ownBlock=some b) w w':=⟨h3.os,h3.tape,h3.output,h3.size,fun j hj hn=>h3.block j hj fun he=>hn he.symm⟩;have nO:(Builtin.append_ #[t,u] ty #[v,sv str]).run P w=.ok v' w':=hr;refine WL.val (v:=v') (w':=w') (by simp [execOp,resolve,invoke,builtin,hs,hx,nO]) (h v' w' F gU ?_ ?_)
 ·intro b' bo
  rcases fg.2 with ⟨rfl,rfl⟩ | ⟨g,cap,cur,rfl,ot,hg,pI,x5,fm,CL⟩
  ·by_cases hm:str.length=0
   ·have:=h4.2 ⟨rfl,hm⟩;subst this;cases bo
   ·have eE:=run_append_nil_string (P:=P) w t u ty e i (.int .u8 0) hu gD hi hz ⟨str.toArray⟩ (by omega) (by rw [rE];omega) (by rw [yG,rE];omega);rw [hr] at eE;cases eE;simp only [Value.ownBlock,Option.some.injEq] at bo;exact .inr (by omega)
  ·by_cases hroom:n+str.length<=cap
   ·have VT:cur.size=cap:=by simpa using fm
    have eE:=Lib.run_append_room_string (P:=P) w t u ty e i hu gD hi cB g n cap cur hg ⟨str.toArray⟩ (by rw [rE];exact hroom) (by rw [rE];omega);rw [hr] at eE;cases eE;exact .inl bo
   ·have holds:∀ j u,xs[j]?=some u->w.cell? ((⟨g,0,none⟩:Addr).add j)=some u:=World.ownsRow.cells (g:=g) fg rfl;have eE:=Lib.run_append_grow_string (P:=P) w t u ty e i (.int .u8 0) hu gD hi hz ⟨g,0,none⟩ n cap xs (by rw [cB];exact fg.1) holds ⟨str.toArray⟩ (by rw [rE];omega) (by rw [rE];omega) (by rw [yG,rE];exact growslice_fits (by omega) (by omega));rw [hr] at eE;cases eE;simp only [Value.ownBlock,Option.some.injEq] at bo;exact .inr (by omega)
 ·rcases fg.2 with ⟨rfl,rfl⟩ | ⟨g,cap,cur,rfl,ot,hg,pI,x5,fm,CL⟩
  ·exact .inl (gU.mono fun k _ hk=>by cases hk)
  ·by_cases hroom:n+str.length<=cap
   ·have VT:cur.size=cap:=by simpa using fm
    have eE:=Lib.run_append_room_string (P:=P) w t u ty e i hu gD hi cB g n cap cur hg ⟨str.toArray⟩ (by rw [rE];exact hroom) (by rw [rE];omega);rw [hr] at eE;cases eE;exact .inr rfl
   ·have holds:∀ j u,xs[j]?=some u->w.cell? ((⟨g,0,none⟩:Addr).add j)=some u:=World.ownsRow.cells (g:=g) fg rfl;have eE:=Lib.run_append_grow_string (P:=P) w t u ty e i (.int .u8 0) hu gD hi hz ⟨g,0,none⟩ n cap xs (by rw [cB];exact fg.1) holds ⟨str.toArray⟩ (by rw [rE];omega) (by rw [rE];omega) (by rw [yG,rE];exact growslice_fits (by omega) (by omega));rw [hr] at eE;cases eE;exact .inl ⟨rfl,rfl,rfl,by simp,fun k hk _=>Below.heap_alloc _ _ _ (by simpa using hk)⟩
theorem R.uk {x:Operand} {s:TypeId} {i off:Nat} [hT:dz P s i off 1 false] {vs:List Value} {v:Value} (hx:ev l x=.agg vs.toArray) (hv:vs[off]?=some v):eU P l w (.field s x i) v:=fun d ty pos af=>by
 obtain ⟨hT⟩:=hT;unfold Lt at hT;split at hT
 ·rename_i fs hu;split at hT
  ·rename_i f hf;simp only [aE,beq_iff_eq,bne_iff_ne,ne_eq] at hT;obtain ⟨⟨⟨I,F⟩,h3⟩,h4⟩:=hT
   have hag:(isAgg f.type).run P w=.ok false w:=by
    cases hd:P.underlying f.type with
    | none=>simp [hd] at h4
    | some d =>
     rw [hd] at h4;unfold isAgg;rw [Sem.run_bind,run_underlying hd w]
     cases d <;> simp_all [zw]
   have CP:vs.toArray[f.offset]?=some v:=by rw [I];simpa using hv
   have hv2:vs[f.offset]?=some v:=by rw [I];exact hv
   simp [execOp,Instr.field,hx,run_underlying hu,hf,part,asAgg,hag,CP,hv2]
  ·cases hT
 ·cases hT
end
end Go.Xw
namespace Go.Xg
open GV (U)
open Go.RowKit Go.Xw
section
variable {P:Program} {m:Nat} {Q:eu} {fr:List GV} {Γ:List Ob} {ops:Array Oper} {rest:List Oper} {d:Option Tmp} {op:Op} {ty:TypeId} {pos:String} {af:Array Edge}
theorem YG.uk {x:Operand} {s:TypeId} {i off:Nat} [hT:dz P s i off 1 false] {cs:List GV} {g:GV} (hx:a6 fr x=.agg cs) (hg:cs[off]?=some g):YG P (.field s x i) fr Γ g:=fun B K β w l hI hF=>by
 have h:=hF.ev x;rw [hx] at h;generalize hv:ev l x=v at h
 cases h with
 | agg vs _ hl h =>
  have hi:off < vs.length:=by rw [hl];exact (bh hg).1
  exact ⟨vs[off],R.uk hv (by simp [hi]),h off _ g (by simp [hi]) hg⟩
abbrev cx (s:ah):List (List GV):=s.map fun c=>[.v (.int .u8 (c.toNat:Int))]
theorem GL.Du {s x:Operand} {t u e:Nat} [hT:Em P t e] [hU:qJ P u] {i n fz:Nat} {rows:List (List GV)} {str:ah} (hx:a6 fr x=.v (sv str)) (hs:a6 fr s=.vec i n) (bJ:Γ[i]?=some (.vec e 1 fz rows)) (hn:rows.length=n) (cj:str.isEmpty=false)
  (hb:n+str.length<=140737488355328)
  (h:GL P m ops Q rest (bz fr d (.vec i (n+str.length))) (oset Γ i (.vec e 1 fz (rows++cx str)))) :
  GL P m ops Q (⟨d,.call ⟨.builtin .append,#[s,x],#[t,u]⟩,ty,pos,af,none⟩::rest) fr Γ:=fun B K β w l hm hI hF=>by
 subst hn
 have cj:str≠[]:=by intro h0;rw [h0] at cj;cases cj
 obtain ⟨h0,xs,o1,o2,o3,o4,o5,o6⟩:=hI.ob i _ bJ;have uE:=hF.ev s;rw [hs] at uE
 have rF:ev l s=h0:=by
  generalize hv:ev l s=v at uE
  cases uE with
  | vec _ _ a c hh =>
   obtain ⟨h',m',e1,e2,e3⟩:=hh;rw [o1] at e1;cases e1;exact e3 rfl
 have lE:(cx str).flatten=str.map fun c=>GV.v (.int .u8 (c.toNat:Int)):=by
  unfold cx;clear hx cj hb h;generalize str=s
  induction s with
  | nil=>rfl
  | cons c r ih=>simp only [List.map_cons,flatten_cons,ih];rfl
 have hlen:(cx str).length=str.length:=by simp [cx]
 refine WL.Du (base:=0) (v:=h0) (n:=rows.length) (xs:=xs) (str:=str) rF o2 (hF.ij hx) hb (aX _) ?_;intro v' w' how gU pb uB
 obtain ⟨K',hK,rG,bA⟩:=hI.grow bJ o1 ⟨o2,o3⟩ (news:=cx str) (ns:=ly str) (by rw [hlen];exact how) gU pb (by rw [lE];exact (by
   have:(str.map fun c=>GV.v (.int .u8 (c.toNat:Int)))=kR (ly str):=by simp [kR,ly]
   rw [this];exact bg.self)) (fun r hr=>by
   simp only [cx,tI] at hr;obtain ⟨c,_,rfl⟩:=hr
   exact ⟨rfl,fun g hg=>by rw [List.mem_singleton] at hg;subst hg;rfl⟩) (by intro h0;exact cj (List.map_eq_nil_iff.1 h0)) (fun b bo o v ho hv=>by
  rcases uB with h7 | h7
  ·exact h7.c hv (fun h=>h)
  ·have jg:o < xs.length:=by rw [o2.1];exact xS ho (ru 1 o6)
   obtain ⟨b2,c2,qz,_,_,kB⟩:=o2.cells.2 (by intro h0;rw [h0] at jg;simp at jg)
   have fv:b2=b:=by rw [qz] at bo;cases bo;rfl
   subst fv;have Fb:=kB o xs[o] (by simp [jg]);rw [fP,hv] at Fb;cases Fb;obtain ⟨b3,c3,N2,_,_,NX⟩:=how.cells.2 (by intro h0;have:xs=[]:=(List.append_eq_nil_iff.1 h0).1;rw [this] at jg;simp at jg)
   have yE:b3=b2:=by rw [N2,bo] at h7;cases h7;rfl
   subst yE
   rw [<-fP];exact NX o _ (by rw [kl jg];simp [jg]))
 rw [<-bD] at bA;refine h B K' _ w' _ hm bA ((hF.mono hK rG).put d ?_);obtain ⟨a,c,rfl⟩:=how.shape;exact .vec i _ a c ⟨_,_,bq,by simp [hlen],fun _=>by simp [hlen]⟩
end
theorem GF.WB {P:Program} {f:FuncId} {vs:List Value} {v:Value} (h:∀ K β w,jl K β w->nL K w->nm P f vs w fun x w'=>x=v/\Ext jc w w'):GF P f (vs.map GV.v) [] (.v v) []:=fun B K β w us hm hI hF=>by
 have hv:us=vs:=by
  obtain ⟨I,F⟩:=hF;apply ext_getElem
  ·simpa using I
  ·intro i h3 h4;have:=F i us[i] (.v vs[i]) (by simp [h3]) (by simp [h4]);exact Rel.gy this
 subst hv
 exact (h K β w hI.tab hI.fz).mono fun x w' ⟨I,F⟩=>⟨K,β,.v v,[],hI.same F,by rw [I];exact .v _,rfl,rfl⟩
theorem jl.cell {K:Fz} {β:Bt} {w:World} (h:jl K β w) (hf:nL K w) {b o:Nat} {x:Value} (hk:∀ m,yg m b o=some (.v x)):gN w.heap b o=some x:=by
 obtain ⟨m,h⟩:=h.le;obtain ⟨_,v,hv,hr⟩:=hf b o _ (h b o _ (hk m));rw [hv,Rel.gy hr]
theorem jl.maxLen {K:Fz} {β:Bt} {w:World} (h:jl K β w) (hf:nL K w):∃ m,w.cell? ⟨0,0,none⟩=some (.int .i64 m):=by
 obtain ⟨m,h⟩:=h.le
 have hk:yg m 0 0=some (.v (.int .i64 m)):=by simp [yg]
 obtain ⟨_,v,hv,hr⟩:=hf _ _ _ (h _ _ _ hk);exact ⟨m,by rw [fP,hv,Rel.gy hr]⟩
theorem uc.all {K:Fz} {β:Bt} {w:World} (h:jl K β w) (hf:nL K w) {b n:Nat} {zs:List Value} (hb:uc w b n) (hn:zs.length=n) (hk:∀ m o x,zs[o]?=some x->yg m b o=some (.v x)):∃ E z,w.heap[b]?=some (.cells zs.toArray E z):=by
 obtain ⟨cs,E,z,I,F⟩:=hb;refine ⟨E,z,?_⟩
 have:cs=zs.toArray:=by
  apply Array.ext
  ·simp [F,hn]
  ·intro i hi pG
   have hx:zs[i]?=some zs.toArray[i]:=by simp
   have h3:=h.cell hf (b:=b) (o:=i) (fun m=>hk m i _ hx)
   have h4:gN w.heap b i=cs[i]?:=by rw [<-fP,cell_of_row w b i cs E z I]
   rw [h4] at h3;simpa [hi] using h3
 rw [I,this]
theorem GF.aaw {P:Program} {f:FuncId} {vs us:List Value} {E:TypeId} (h:∀ K β w,jl K β w->nL K w->nm P f vs w fun x w'=>x=.slice (some ⟨w.heap.size,0,none⟩) us.length us.length/\w'=w.alloc (.cells us.toArray E)):GF P f (vs.map GV.v) [] (.sl 1 (us.map fun u=>[.v u])) []:=fun B K β w ws hm hI hF=>by
 have hv:ws=vs:=by
  obtain ⟨I,F⟩:=hF;apply ext_getElem
  ·simpa using I
  ·intro i h3 h4;have:=F i ws[i] (.v vs[i]) (by simp [h3]) (by simp [h4]);exact Rel.gy this
 subst hv
 refine (h K β w hI.tab hI.fz).mono fun x w' ⟨I,F⟩=>?_
 subst I;subst F;have hn:=vQ.of w (.cells us.toArray E);obtain ⟨hle,bA⟩:=hI.yy hn (cs:=us.map .v) bg.self (fun g hg=>by obtain ⟨u,_,rfl⟩:=tI.1 hg;rfl);refine ⟨_,β,.sl 1 (us.map fun u=>[.v u]),[],bA,?_,rfl,rfl⟩;have:=Rel.sl (K:=mn K w.heap.size (us.map .v)) (β:=β) w.heap.size 0 us.length 1 (us.map fun u=>[.v u]) (fun i r hr=>?_) (by simp)
 ·rw [bS] at this;exact this
 ·rw [aV] at hr
  cases hu:us[i]? with
  | none=>rw [hu] at hr;cases hr
  | some u =>
   rw [hu] at hr;cases hr;refine ⟨rfl,fun j g hg=>?_⟩
   cases j with
   | zero=>cases hg;rw [fk,Nat.mul_one,Nat.add_zero];exact zu (by rw [aV,hu];rfl)
   | succ j=>simp at hg
section
variable {B:Bs} {K:Fz} {β:Bt} {Γ:List Ob} {w:World}
theorem Inv.swap {i:Nat} {y:Ob} (h:Inv B K β Γ w) (ho:lj K β w i y):Inv B K β (oset Γ i y) w:=by
 refine ⟨h.ext,h.kle,h.ble,h.loc,h.fz,fun j x hj=>?_,fun j hj=>h.out j (by simpa [bD] using hj),h.dis,h.own,h.kn,h.tab⟩;rw [bD,iz] at hj;split at hj
 ·rename_i fx;split at hj
  ·cases hj;subst fx;exact ho
  ·cases hj
 ·exact h.ob j x hj
theorem Inv.zm {i E k:Nat} {rows:List (List GV)} {x:Value} (h:Inv B K β Γ w) (hi:Γ[i]?=some (.vech E k rows x)):Inv B K β (oset Γ i (.vec E k 0 rows)) w:=by
 obtain ⟨xs,I,F,h3,h4,h5⟩:=h.ob i _ hi;exact h.swap ⟨x,xs,I,F,h3,h4,fun b hb=>⟨fun o _=>h5 b hb o,fun o g ho=>by omega⟩,aX _⟩
theorem Inv.vK {i E k:Nat} {rows:List (List GV)} (h:Inv B K β Γ w) (hi:Γ[i]?=some (.vec E k 0 rows)):∃ a c,β i=.gr (.slice a rows.length c) rows.length/\Inv B K β (oset Γ i (.vech E k rows (.slice a rows.length c))) w:=by
 obtain ⟨x,xs,I,F,h3,h4,h5,h6⟩:=h.ob i _ hi;obtain ⟨a,c,rfl⟩:=F.shape;exact ⟨a,c,I,h.swap ⟨xs,I,F,h3,h4,fun b hb o=>(h5 b hb).1 o ag⟩⟩
theorem qk {i:Nat} {x y:Ob} (h:Γ[i]?=some x):(oset Γ i y)[i]?=some y:=by
 have:=(bh h).1;rw [bD,iz];simp [this]
theorem oD {i:Nat} {x y:Ob}:oset (oset Γ i x) i y=oset Γ i y:=by rw [bD,bD,bD,List.set_set]
theorem Inv.gr {i E k:Nat} {rows:List (List GV)} {x:Value} (h:Inv B K β Γ w) (hi:Γ[i]?=some (.vech E k rows x)):β i=.gr x rows.length:=by
 obtain ⟨xs,I,_⟩:=h.ob i _ hi;exact I
theorem Inv.Dd {i E k:Nat} {rows:List (List GV)} {x:Value} (h:Inv B K β Γ w) (hi:Γ[i]?=some (.vech E k rows x)):∃ K',c6 K K'/\Rel K' β x (.sl k rows)/\Inv B K' β (oset Γ i (.vec E k rows.length rows)) w:=by
 obtain ⟨xs,I,F,h3,h4,h5⟩:=h.ob i _ hi;obtain ⟨K',hK,yK,bA⟩:=(h.zm hi).ki (qk hi);rw [<-bD,oD] at bA;refine ⟨K',hK,?_,bA⟩
 rcases F.2 with ⟨e5,e6⟩ | ⟨g,cap,cu,e5,_,_,pI,_⟩
 ·have:rows=[]:=gQ e6;subst this;subst e5;exact .sl0 _ _ _
 ·subst e5;refine .sl g 0 cap k rows (fun j r hr=>⟨(h4 r (bm hr)).1,fun q g' la=>?_⟩) pI;rw [fk];exact yK _ g I rfl _ g' (wJ h4 hr la)
end
section
variable {P:Program} {m:Nat} {Q:eu} {fr:List GV} {Γ:List Ob} {ops:Array Oper} {rest:List Oper} {d:Option Tmp} {op:Op} {ty:TypeId} {pos:String} {af:Array Edge}
theorem Wk.q6 (E k:Nat):Wk m fr Γ fr (Γ++[.vech E k [] (.slice none 0 0)]):=fun B K β w l hm hI hF=>by
 have bX:β Γ.length=.no:=hI.out _ (aH _);have bA:=hI.Ga (w':=w) (E:=E) (k:=k) (x:=.slice none 0 0) (xs:=[]) (rows:=[]) (Ext.refl w) (iH.nil w 0 E k) (fun b hb=>by cases hb) bg.nil (fun r hr=>by cases hr);have hle:dJ β (fC β Γ.length (.gr (.slice none 0 0) ([]:List (List GV)).length)):=ic (by rw [bX];trivial);refine ⟨K,_,?_,hF.mono (c6.refl K) hle⟩;have hb:fC β Γ.length (.gr (.slice none 0 0) ([]:List (List GV)).length) Γ.length=.gr (.slice none 0 0) ([]:List (List GV)).length:=bq;have:=bA.swap (i:=Γ.length) (y:=.vech E k [] (.slice none 0 0)) ⟨[],hb,iH.nil w 0 E k,bg.nil,(fun r hr=>by cases hr),(fun b hb=>by cases hb)⟩;rw [bD] at this;simpa using this
theorem Wk.pZ {t i E k:Nat} {rows:List (List GV)} {x:Value} (ht:dj fr t=.v x) (kC:kJ fr t=true) (bJ:Γ[i]?=some (.vech E k rows x)):Wk m fr Γ (bH fr t (.sl k rows)) (oset Γ i (.vec E k rows.length rows)):=fun B K β w l hm hI hF=>by
 obtain ⟨K',hK,hr,bA⟩:=hI.Dd bJ;refine ⟨K',β,bA,?_⟩;have hv:nth l t=x:=Rel.gy (by rw [<-ht];exact hF.nth t);have:=(hF.mono hK (dJ.refl β)).fS t hr;rw [<-hv,B9 (oA hF kC)] at this;exact this
theorem bg.bH {K:Fz} {β:Bt} {x:Value} {g:GV} (hr:Rel K β x g):∀ {vs:List Value} {cs:List GV} {o:Nat},bg K β vs cs->cs[o]?=some (.v x)->bg K β vs (bH cs o g):=by
 intro vs
 induction vs with
 | nil=>intro cs o h ho;have:cs=[]:=gQ h.1.symm;subst this;simp at ho
 | cons v vs ih =>
  intro cs o h ho
  cases cs with
  | nil=>simp at ho
  | cons c cs =>
   obtain ⟨a1,a2⟩:=h.oJ
   cases o with
   | zero=>cases ho;have hv:=Rel.gy a1;subst hv;exact .cons hr a2
   | succ o=>exact .cons a1 (ih a2 (by simpa using ho))
theorem Wk.zW {i o j E k:Nat} {T:TypeId} {cs:List GV} {rows:List (List GV)} {x:Value} (hi:Γ[i]?=some (.box T cs)) (ho:cs[o]?=some (.v x)) (fx:Nat.beq i j=false) (hj:Γ[j]?=some (.vech E k rows x)):Wk m fr Γ fr (oset (oset Γ j (.vec E k rows.length rows)) i (.box T (bH cs o (.sl k rows)))):=fun B K β w l hm hI hF=>by
 have cj:i≠j:=by intro e;subst e;simp at fx
 obtain ⟨K',hK,hr,bA⟩:=hI.Dd hj;obtain ⟨b,vs,I,F,h3,h4⟩:=bA.ob i (.box T cs) (by rw [bD,iz,ab (fun e=>cj e.symm)];exact hi);exact ⟨K',β,bA.swap ⟨b,vs,I,F,bg.bH hr h3 ho,h4⟩,hF.mono hK (dJ.refl β)⟩
def kh:List (List GV)->Nat->Nat->GV->List (List GV)
 | [],_,_,_=>[]
 | r::rs,0,o,g=>bH r o g::rs
 | r::rs,n+1,o,g=>r::kh rs n o g
theorem G6:∀ (l:List GV) (o:Nat) (g:GV),(bH l o g).length=l.length
 | [],_,_=>rfl
 | _::l,0,_=>rfl
 | _::l,o+1,g=>by simp [bH,G6 l o g]
theorem BE:∀ (a b:List GV) (o:Nat) (g:GV),bH (a++b) (a.length+o) g=a++bH b o g
 | [],b,o,g=>by simp
 | x::a,b,o,g=>by
  rw [cons_append,length_cons,show a.length+1+o=(a.length+o)+1 by omega,bH,BE a b o g];rfl
theorem EU:∀ (a b:List GV) (o:Nat) (g:GV),o < a.length->bH (a++b) o g=bH a o g++b
 | [],b,o,g,h=>by simp at h
 | x::a,b,0,g,h=>rfl
 | x::a,b,o+1,g,h=>by simp [bH,EU a b o g (by simpa using h)]
theorem Qu {l:List GV} {o:Nat} {g x:GV} (h:x∈bH l o g):x∈l\/x=g:=by
 induction l generalizing o with
 | nil=>cases h
 | cons y l ih =>
  cases o with
  | zero =>
   simp only [bH,List.mem_cons] at h;rcases h with h | h
   ·exact .inr h
   ·exact .inl (cV _ h)
  | succ o =>
   simp only [bH,List.mem_cons] at h;rcases h with h | h
   ·exact .inl (by rw [h];exact mem_cons_self)
   ·exact (ih h).imp (cV _) id
theorem uS:∀ (rows:List (List GV)) (i o:Nat) (g:GV),(kh rows i o g).length=rows.length
 | [],_,_,_=>rfl
 | r::rs,0,_,_=>rfl
 | r::rs,n+1,o,g=>by simp [kh,uS rs n o g]
theorem zc {k:Nat} {o:Nat} {g:GV} (ho:o < k):∀ {rows:List (List GV)} {i:Nat},gE k rows->i < rows.length->(kh rows i o g).flatten=bH rows.flatten (i * k+o) g
 | [],_,_,h=>by simp at h
 | r::rs,0,hk,_=>by
  have:=(hk r (mem_cons_self)).1;rw [kh,flatten_cons,flatten_cons,Nat.zero_mul,fk,EU _ _ _ _ ag]
 | r::rs,n+1,hk,h=>by
  have:=(hk r (mem_cons_self)).1;rw [kh,flatten_cons,flatten_cons,zc ho (fun r hr=>hk r (cV _ hr)) (by simpa using h),show (n+1) * k+o=r.length+(n * k+o) by rw [Nat.succ_mul];omega,BE]
theorem D4 {k:Nat} {o:Nat} {g:GV} (hg:g.pc=true):∀ {rows:List (List GV)} {i:Nat},gE k rows->gE k (kh rows i o g)
 | [],_,_=>fun r hr=>by cases hr
 | r::rs,0,hk=>fun r' hr=>by
  simp only [kh,List.mem_cons] at hr
  rcases hr with rfl | hr
  ·exact ⟨by rw [G6];exact (hk r mem_cons_self).1,fun x hx=>by
    rcases Qu hx with h | h
    ·exact (hk r mem_cons_self).2 x h
    ·rw [h];exact hg⟩
  ·exact hk r' (cV _ hr)
 | r::rs,n+1,hk=>fun r' hr=>by
  simp only [kh,List.mem_cons] at hr
  rcases hr with rfl | hr
  ·exact hk _ mem_cons_self
  ·exact D4 hg (fun r hr=>hk r (cV _ hr)) r' hr
theorem H0 {a b:List (List GV)} {r:List GV} {o:Nat} {g:GV}:kh (a++r::b) a.length o g=a++bH r o g::b:=by
 induction a with
 | nil=>rfl
 | cons x a ih=>rw [cons_append,length_cons,kh,ih];rfl
theorem Wk.YB {i idx o j E k T k':Nat} {rows ks:List (List GV)} {x h:Value} {r:List GV} (hi:Γ[i]?=some (.vech T k rows h)) (hr:rows[idx]?=some r) (ho:r[o]?=some (.v x)) (fx:Nat.beq i j=false) (hj:Γ[j]?=some (.vech E k' ks x)) :
  Wk m fr Γ fr (oset (oset Γ j (.vec E k' ks.length ks)) i (.vech T k (kh rows idx o (.sl k' ks)) h)):=fun B K β w l hm hI hF=>by
 have cj:i≠j:=by intro e;subst e;simp at fx
 obtain ⟨K',hK,gJ,bA⟩:=hI.Dd hj;obtain ⟨xs,I,F,h3,h4,h5⟩:=bA.ob i (.vech T k rows h) (by rw [bD,iz,ab (fun e=>cj e.symm)];exact hi);have ar:=(bh hr).1
 have SK:o < k:=by rw [<-(h4 r (bm hr)).1];exact (bh ho).1
 exact ⟨K',β,bA.swap ⟨xs,by rw [uS];exact I,by rw [uS];exact F,by rw [zc SK h4 ar];exact bg.bH gJ h3 (wJ h4 hr ho),D4 rfl h4,h5⟩,hF.mono hK (dJ.refl β)⟩
theorem YG.eB {x y:Operand} {t e:TypeId} {k:Nat} [hT:nT P t e k] (i:Nat) {v:Value} {kk:IntKind} {j E:Nat} {rows:List (List GV)} (hx:a6 fr x=.v v) (hy:a6 fr y=.v (.int kk j)) (bJ:Γ[i]?=some (.vech E k rows v)) (hj:j < rows.length):YG P (.indexAddr t x y) fr Γ (.vp i rows.length k j 0):=fun B K β w l hI hF=>by
 have hv:=hF.ij hx;obtain ⟨xs,I,F,h3,h4,h5⟩:=hI.ob i _ bJ
 rcases F.2 with ⟨h8,h9⟩ | ⟨g,cap,cur,h8,_,hg,_⟩
 ·omega
 ·subst h8;exact ⟨_,R.yT hv (hF.ij hy) hj,.vp i _ k j 0 _ ⟨_,_,I,aH _,fun _=>⟨g,rfl,by simp⟩⟩⟩
theorem YG.Vu {x:Operand} {s:TypeId} {f off k:Nat} {agg:Bool} [hT:dz P s f off k agg] {i n k' idx o E:Nat} {rows:List (List GV)} {v:Value} (hx:a6 fr x=.vp i n k' idx o) (bJ:Γ[i]?=some (.vech E k' rows v)) (hn:rows.length=n):YG P (.fieldAddr s x f) fr Γ (.vp i n k' idx (o+off)):=fun B K β w l hI hF=>by
 have h:=hF.ev x;rw [hx] at h;generalize hv:ev l x=u at h
 cases h with
 | vp _ _ _ _ _ _ h =>
  obtain ⟨h0,m,I,F,h3⟩:=h;rw [hI.gr bJ] at I;cases I;obtain ⟨b,hb,rfl⟩:=h3 hn;exact ⟨_,R.Qn hv,.vp i n k' idx _ _ ⟨_,_,hI.gr bJ,F,fun _=>⟨b,hb,by rw [gW]⟩⟩⟩
theorem YG.Zq {x:Operand} {t:TypeId} [hT:Ty P t false 1] {i n k idx o E:Nat} {rows:List (List GV)} {v:Value} {r:List GV} {g:GV} (hx:a6 fr x=.vp i n k idx o) (bJ:Γ[i]?=some (.vech E k rows v)) (hn:rows.length=n) (hr:rows[idx]?=some r) (hg:r[o]?=some g):YG P (.load t x) fr Γ g:=fun B K β w l hI hF=>by
 have h:=hF.ev x;rw [hx] at h;generalize hv:ev l x=u at h
 cases h with
 | vp _ _ _ _ _ _ h =>
  obtain ⟨h0,m,I,F,h3⟩:=h;obtain ⟨xs,h4,h5,h6,h7,_⟩:=hI.ob i _ bJ;rw [I] at h4;cases h4;obtain ⟨b,hb,rfl⟩:=h3 hn;obtain ⟨u,hu,gJ⟩:=h6.at (wJ h7 hr hg);obtain ⟨b2,c,he,_,_,hc⟩:=h5.cells.2 (by intro h0;rw [h0] at hu;simp at hu);subst he;cases hb;exact ⟨u,R.ld hv (by rw [<-fP];exact hc _ _ hu),gJ⟩
theorem Cc {v:Value}:∀ (l:List Value) (n o:Nat),o < n->(fS l o v).take n=fS (l.take n) o v
 | [],n,o,h=>by simp [fS]
 | x::l,0,o,h=>by omega
 | x::l,n+1,0,h=>by simp [fS]
 | x::l,n+1,o+1,h=>by simp [fS,Cc l n o ag]
theorem xO {v:Value}:∀ (l:List Value) (o:Nat),(fS l o v).length=l.length
 | [],o=>rfl
 | x::l,0=>rfl
 | x::l,o+1=>by simp [fS,xO l o]
theorem GL.Zw {x y:Operand} {t:TypeId} [hT:Ty P t false 1] {i n k idx o E:Nat} {rows:List (List GV)} {v:Value} {r:List GV} {g:GV} (hx:a6 fr x=.vp i n k idx o) (bJ:Γ[i]?=some (.vech E k rows v)) (hn:rows.length=n) (hr:rows[idx]?=some r) (SK:Nat.blt o r.length=true)
  (hy:oq (a6 fr y)=some [g]) (I:g.one=true) (hp:g.pc=true) (h:GL P m ops Q rest (bz fr d (.v undef)) (oset Γ i (.vech E k (kh rows idx o g) v))):GL P m ops Q (⟨d,.store t x y,ty,pos,af,none⟩::rest) fr Γ:=fun B K β w l hm hI hF=>by
 have Hq:=hF.ev x;rw [hx] at Hq;generalize hv:ev l x=u at Hq
 cases Hq with
 | vp _ _ _ _ _ _ hh =>
  obtain ⟨h0,mm,e1,e2,e3⟩:=hh;obtain ⟨xs,h4,h5,h6,h7,h8⟩:=hI.ob i _ bJ;rw [e1] at h4;cases h4;obtain ⟨b,hb,rfl⟩:=e3 hn;have ar:=(bh hr).1
  have aaf:o < k:=by rw [<-(h7 r (bm hr)).1];simpa using SK
  obtain ⟨us,kq,kG⟩:=(hF.ev y).cells hy
  obtain ⟨u1,rfl⟩:∃ u1,us=[u1]:=by
   have:=kG.1
   match us,this with
   | [u1],_=>exact ⟨u1,rfl⟩
  have Ze:Rel K β u1 g:=kG.2 0 u1 g rfl rfl
  have hq:idx * k+o < rows.length * k:=by
   have:(idx+1) * k<=rows.length * k:=ru k ar;rw [Nat.succ_mul] at this;omega
  rcases h5.2 with ⟨e5,e6⟩ | ⟨g0,cap,cur,e5,Lq,hg,pI,x5,cB,lL⟩
  ·omega
  ·subst e5;simp only [Value.ownBlock,Option.some.injEq] at hb;subst hb;have ur:rows.length * k<=cap * k:=ru k pI
   refine WL.st (t:=t) (k:=1) hv rfl hg (by rw [kq];rfl) ag (by rw [kq];have:=(xG (Ze.one I)).2;simpa [Xw.nc] using this) fun w' hs=>?_
   rw [kq] at hs
   have fm:xL cur (idx * k+o) ([u1]:List Value)=(fS cur.toList (idx * k+o) u1).toArray:=by
    simp only [xL];rw [<-zn]
   simp only [toList_toArray,fm] at hs
   have FW:rows.flatten.length=rows.length * k:=by rw [<-h6.1];exact h5.1
   have how:iH w' 0 E k (.slice (some ⟨g0,0,none⟩) rows.length cap) rows.length (fS xs (idx * k+o) u1) :=
    ⟨by rw [xO];exact h5.1,.inr ⟨g0,cap,_,rfl,Lq,hs.blk,pI,x5,by simp [xO,cB],by rw [toList_toArray,Cc _ _ _ hq,lL]⟩⟩
   have gJ:bg K β (fS xs (idx * k+o) u1) (bH rows.flatten (idx * k+o) g):=by
    have gen:∀ (vs:List Value) (cs:List GV) (q:Nat),bg K β vs cs->bg K β (fS vs q u1) (bH cs q g):=by
     intro vs
     induction vs with
     | nil=>intro cs q h;have:cs=[]:=gQ h.1.symm;subst this;exact h
     | cons v vs ih =>
      intro cs q h
      cases cs with
      | nil=>have:=h.1;simp at this
      | cons c cs =>
       obtain ⟨a1,a2⟩:=h.oJ
       cases q with
       | zero=>exact .cons Ze a2
       | succ q=>exact .cons a1 (ih cs q a2)
    exact gen _ _ _ h6
   have dQ:(β i).blk=some g0:=by rw [e1];rfl
   have bA:Inv B K β (oset Γ i (.vech E k (kh rows idx o g) (.slice (some ⟨g0,0,none⟩) rows.length cap))) w':=by
    refine ⟨hI.ext.step hs.ext (fun j hj=>?_),hI.kle,hI.ble,hI.loc,hI.fz.ext hs.ext (fun b' o' g' la he=>?_),fun j y hj=>?_,fun j hj=>hI.out j (by simpa [bD] using hj),hI.dis,hI.own,hI.kn,hI.tab.step hs.ext (fun j hj=>⟨i,by subst hj;exact dQ⟩) (c6.refl K) (fun i b2 h=>.inl ⟨i,h⟩)⟩
    ·subst hj;exact (hI.own i _ dQ).symm
    ·subst he;rw [h8 _ rfl] at la;cases la
    ·rw [bD,iz] at hj;split at hj
     ·rename_i fx;split at hj
      ·cases hj;subst fx
       exact ⟨_,by rw [uS];exact e1,by rw [uS];exact how,by rw [zc aaf h7 ar];exact gJ,D4 hp h7,h8⟩
      ·cases hj
     ·rename_i fx;refine (hI.ob j y hj).ext hs.ext (fun b' bo he=>?_) (c6.refl K) (dJ.refl β) rfl (fun _ _ _ h=>h);subst he;exact fx (hI.dis i j _ dQ bo)
   exact h B K β w' _ hm bA (hF.put d (.v _))
theorem GL.lP {x:Operand} {ts:Tmp} {t e k iU:Nat} {z:List Value} [hT:pz P t e k iU] [hZ:qI P t e k z] {d1 dt:Tmp} {PA:TypeId} {HR:String} {MN:Array Edge} (i:Nat) {n:Nat} {rows:List (List GV)} {gs:List GV} {v:Value}
  (hx:oq (a6 fr x)=some gs) (hk:Nat.beq gs.length k=true) (I:n5 gs=true) (hp:uP gs=true) (hs:dj fr ts=.v v) (Wd:Nat.beq ts d1=false) (hd:kJ fr d1=true) (bJ:Γ[i]?=some (.vech e k rows v)) (hn:rows.length=n)
  (hb:(n+1<=9223372036854775807/\(n+1) * iU<=140737488355328)/\k<=16777216)
  (h:∀ a c,GL P m ops Q rest (bz (bz fr (some d1) U) (some dt) (.v (.slice a (n+1) c))) (oset Γ i (.vech e k (rows++[gs]) (.slice a (n+1) c)))) :
  GL P m ops Q (⟨some d1,.buildSlice t 1 #[(0,x)],PA,HR,MN,none⟩::⟨some dt,.call ⟨.builtin .append,#[.tmp ts,.tmp d1],#[t,t]⟩,ty,pos,af,none⟩::rest) fr Γ:=fun B K β w l hm hI hF=>by
 subst hn;obtain ⟨us,kq,kG⟩:=(hF.ev x).cells hx;obtain ⟨xs,o1,o2,o3,o4,o5⟩:=hI.ob i _ bJ;have rF:nth l ts=v:=Rel.gy (by rw [<-hs];exact hF.nth ts);have N0:=oA hF hd
 have aab:ts≠d1:=by intro e;subst e;simp at Wd
 have mq:gs.length=k:=by simpa using hk
 refine WL.push (base:=0) (v:=v) (vs:=us) (val:=ev l x) (xs:=xs) (n:=rows.length) rfl (fun u=>by rw [show ev (put l (some d1) u) (.tmp ts)=nth (fS l d1 u) ts from rfl,q9 aab];exact rF) (fun u=>wD N0 u) kq (by rw [kG.1,mq]) (kG.nc I) o2 hb.1.1 hb.1.2 hb.2 (aX _) ?_;intro u v' w' how gU pb uB;obtain ⟨K',hK,rG,bA⟩:=(hI.zm bJ).grow (fz:=0) (qk bJ) o1 ⟨o2,o3⟩ (news:=[gs]) (ns:=us) how gU pb (by simpa using kG) (fun r hr=>by simp at hr;subst hr;exact ⟨mq,nI hp⟩) (by simp) (fun b bo o v ho hv=>by omega);rw [<-bD,oD] at bA;obtain ⟨a,c,qQ,o8⟩:=bA.vK (qk bJ);rw [oD] at o8;obtain ⟨a',c',rfl⟩:=how.shape;rw [bq] at qQ;simp only [aZ,length_cons,length_nil] at qQ o8 rG;cases qQ;exact h _ _ B K' _ w' _ hm o8 (((hF.mono hK rG).put (some d1) (.U u)).put (some dt) (.v _))
theorem GL.qL {s x:Operand} {t e k iU:Nat} [hT:pz P t e k iU] (i:Nat) {n:Nat} {dt:Tmp} {v:Value} {rows news:List (List GV)} (hx:a6 fr x=.sl k news) (hs:a6 fr s=.v v) (bJ:Γ[i]?=some (.vech e k rows v)) (hn:rows.length=n) (I:nf news=true) (cj:news.isEmpty=false)
  (hb:n+news.length<=9223372036854775807/\(n+news.length) * iU<=140737488355328)
  (h:∀ a c,GL P m ops Q rest (bz fr (some dt) (.v (.slice a (n+news.length) c))) (oset Γ i (.vech e k (rows++news) (.slice a (n+news.length) c)))) :
  GL P m ops Q (⟨some dt,.call ⟨.builtin .append,#[s,x],#[t,t]⟩,ty,pos,af,none⟩::rest) fr Γ:=fun B K β w l hm hI hF=>by
 subst hn
 have cj:news≠[]:=by intro h0;rw [h0] at cj;cases cj
 obtain ⟨xs,o1,o2,o3,o4,o5⟩:=hI.ob i _ bJ;have rF:ev l s=v:=hF.ij hs;have pL:=hF.ev x;rw [hx] at pL;generalize sH:ev l x=vx at pL
 cases pL with
 | sl0 a c k=>exact absurd rfl cj
 | sl b o c _ _ hr _ =>
  have mf:gE k news:=fun r Oe=>by
   obtain ⟨j,hj⟩:=List.mem_iff_getElem?.1 Oe;refine ⟨(hr j r hj).1,fun g hg=>?_⟩;obtain ⟨q,hq⟩:=List.mem_iff_getElem?.1 hg;exact (hI.fz _ _ _ ((hr j r hj).2 q g hq)).1
  have FW:∀ (rows:List (List GV)) (o:Nat),(∀ (j:Nat) r,rows[j]?=some r->r.length=k/\∀ (q:Nat) g,r[q]?=some g->K b (o+j * k+q)=some g)->∀ (q:Nat) g,rows.flatten[q]?=some g->K b (o+q)=some g:=by
   intro rows
   induction rows with
   | nil=>intro o _ q g hg;simp at hg
   | cons r rows ih =>
    intro o h q g hg;rw [flatten_cons] at hg;have hl:=(h 0 r rfl).1
    by_cases hq:q < r.length
    ·rw [kl hq] at hg;have:=(h 0 r rfl).2 q g hg;simpa using this
    ·rw [nk ag,hl] at hg
     have:=ih (o+k) (fun j r' hj=>by
      have:=h (j+1) r' (by simpa using hj);refine ⟨this.1,fun q g hg=>?_⟩;have:=this.2 q g hg
      rw [show o+(j+1) * k+q=o+k+j * k+q by rw [Nat.succ_mul];omega] at this;exact this) (q - k) g hg
     rw [show o+k+(q - k)=o+q by omega] at this;exact this
  obtain ⟨us,kq,kG⟩:=xb (K:=K) (β:=β) (H:=w.heap) (b:=b) news.flatten o (fun j g hj=>by
   obtain ⟨hp,u,hu,gJ⟩:=hI.fz _ _ _ (FW news o (fun j r hj=>hr j r hj) j g hj)
   exact ⟨u,hu,gJ.pc hp⟩)
  have Oh:us.length=news.length * k:=by
   rw [kq.1,List.length_flatten]
   have:∀ (rows:List (List GV)),gE k rows->(rows.map List.length).sum=rows.length * k:=by
    intro rows
    induction rows with
    | nil=>intro _;simp
    | cons r rows ih =>
     intro hk;rw [List.map_cons,sum_cons,ih (fun r hr=>hk r (cV _ hr)),(hk r (mem_cons_self)).1,length_cons,Nat.succ_mul];omega
   exact this news mf
  refine WL.app (base:=0) (v:=v) (n:=rows.length) (m:=news.length) (xs:=xs) (news:=us) rF o2 sH Oh (fun j u hj=>by rw [fP];exact kG j u hj) (kq.nc (C4 I)) hb.1 hb.2 (aX _) ?_;intro v' w' how gU pb uB;obtain ⟨K',hK,rG,bA⟩:=(hI.zm bJ).grow (fz:=0) (qk bJ) o1 ⟨o2,o3⟩ (news:=news) (ns:=us) how gU pb kq mf cj (fun b bo o v ho hv=>by omega);rw [<-bD,oD] at bA;obtain ⟨a,c,qQ,o8⟩:=bA.vK (qk bJ);rw [oD] at o8;obtain ⟨a',c',rfl⟩:=how.shape;rw [bq] at qQ;simp only [aZ] at qQ o8 rG;cases qQ;exact h _ _ B K' _ w' _ hm o8 ((hF.mono hK rG).put (some dt) (.v _))
end
theorem FC:∀ (us vs:List Value) (o n:Nat),o+us.length<=n->(jG vs o us).take n=jG (vs.take n) o us
 | [],vs,o,n,_=>rfl
 | u::us,vs,o,n,h=>by
  rw [length_cons] at h;rw [jG,jG,FC us _ _ _ ag,Cc _ _ _ ag]
theorem yA (a:List GV):∀ (gs b:List GV) (o:Nat),oT (a++b) (a.length+o) gs=a++oT b o gs
 | [],b,o=>rfl
 | g::gs,b,o=>by rw [oT,oT,BE,gW,yA a gs]
theorem Cz:∀ (gs a b:List GV),a.length=gs.length->oT (a++b) 0 gs=gs++b
 | [],[],b,_=>rfl
 | [],x::a,b,h=>by simp at h
 | g::gs,[],b,h=>by simp at h
 | g::gs,x::a,b,h=>by
  rw [oT,cons_append,bH];have:=yA [g] gs (a++b) 0;simp only [length_cons,length_nil,cons_append,List.nil_append,fk,Nat.add_zero] at this |-;rw [this,Cz gs a b (by simpa using h)]
theorem HY {k:Nat} {gs:List GV} (hg:gs.length=k):∀ {rows:List (List GV)} {i:Nat},gE k rows->i < rows.length->oT rows.flatten (i * k) gs=(rows.set i gs).flatten
 | [],_,_,h=>by simp at h
 | r::rs,0,hk,_=>by
  rw [flatten_cons,List.set_cons_zero,flatten_cons,Nat.zero_mul,Cz gs r _ (by rw [hg];exact (hk r mem_cons_self).1)]
 | r::rs,n+1,hk,h=>by
  have hr:=(hk r mem_cons_self).1;rw [flatten_cons,List.set_cons_succ,flatten_cons,<-HY hg (fun r hr=>hk r (cV _ hr)) (by simpa using h),show (n+1) * k=r.length+n * k by rw [Nat.succ_mul];omega,yA]
theorem Mi {k:Nat} {gs:List GV} (hg:gs.length=k) (hp:uP gs=true) {rows:List (List GV)} {i:Nat} (h:gE k rows):gE k (rows.set i gs):=fun r hr=>by
 rcases List.mem_or_eq_of_mem_set hr with hr | rfl
 ·exact h r hr
 ·exact ⟨hg,nI hp⟩
section
variable {P:Program} {m:Nat} {ops:Array Oper} {Q:eu} {rest:List Oper} {fr:List GV} {Γ:List Ob} {d:Option Tmp} {ty:TypeId} {pos:String} {af:Array Edge}
theorem GL.aaC {x y:Operand} {t:TypeId} {agg:Bool} {k:Nat} [hT:Ty P t agg k] {i n idx E:Nat} {rows:List (List GV)} {v:Value} {gs:List GV} (hx:a6 fr x=.vp i n k idx 0) (bJ:Γ[i]?=some (.vech E k rows v)) (hn:rows.length=n) (ar:idx < rows.length)
  (hy:oq (a6 fr y)=some gs) (hk:Nat.beq gs.length k=true) (I:n5 gs=true) (hp:uP gs=true) (h:GL P m ops Q rest (bz fr d (.v undef)) (oset Γ i (.vech E k (rows.set idx gs) v))):GL P m ops Q (⟨d,.store t x y,ty,pos,af,none⟩::rest) fr Γ:=fun B K β w l hm hI hF=>by
 have hk:gs.length=k:=by simpa using hk
 have Hq:=hF.ev x;rw [hx] at Hq;generalize hv:ev l x=u at Hq
 cases Hq with
 | vp _ _ _ _ _ _ hh =>
  obtain ⟨h0,mm,e1,e2,e3⟩:=hh;obtain ⟨xs,h4,h5,h6,h7,h8⟩:=hI.ob i _ bJ;rw [e1] at h4;cases h4;obtain ⟨b,hb,rfl⟩:=e3 hn;obtain ⟨us,kq,kG⟩:=(hF.ev y).cells hy
  have Oh:us.length=k:=by rw [kG.1,hk]
  have hq:idx * k+k<=rows.length * k:=by
   have:(idx+1) * k<=rows.length * k:=ru k ar;rw [Nat.succ_mul] at this;omega
  rcases h5.2 with ⟨e5,e6⟩ | ⟨g0,cap,cur,e5,Lq,hg,pI,x5,cB,lL⟩
  ·omega
  ·subst e5;simp only [Value.ownBlock,Option.some.injEq] at hb;subst hb;have ur:rows.length * k<=cap * k:=ru k pI
   refine WL.st (t:=t) (k:=k) hv rfl hg (by rw [kq];simpa using Oh) (by rw [Nat.add_zero];omega) (by rw [kq];simpa using kG.nc I) fun w' hs=>?_
   rw [kq,toList_toArray,Nat.add_zero] at hs;obtain ⟨cur⟩:=cur;rw [zf] at hs;simp only [List.size_toArray,toList_toArray] at cB lL
   have how:iH w' 0 E k (.slice (some ⟨g0,0,none⟩) rows.length cap) rows.length (jG xs (idx * k) us) :=
    ⟨by rw [B4];exact h5.1,.inr ⟨g0,cap,_,rfl,Lq,hs.blk,pI,x5,by simp [B4,cB],by rw [toList_toArray,FC _ _ _ _ ag,lL]⟩⟩
   have gJ:bg K β (jG xs (idx * k) us) (oT rows.flatten (idx * k) gs):=kG.jG _ h6;rw [HY hk h7 ar] at gJ
   have dQ:(β i).blk=some g0:=by rw [e1];rfl
   have bA:Inv B K β (oset Γ i (.vech E k (rows.set idx gs) (.slice (some ⟨g0,0,none⟩) rows.length cap))) w':=by
    refine ⟨hI.ext.step hs.ext (fun j hj=>?_),hI.kle,hI.ble,hI.loc,hI.fz.ext hs.ext (fun b' o' g' la he=>?_),fun j y hj=>?_,fun j hj=>hI.out j (by simpa [bD] using hj),hI.dis,hI.own,hI.kn,hI.tab.step hs.ext (fun j hj=>⟨i,by subst hj;exact dQ⟩) (c6.refl K) (fun i b2 h=>.inl ⟨i,h⟩)⟩
    ·subst hj;exact (hI.own i _ dQ).symm
    ·subst he;rw [h8 _ rfl] at la;cases la
    ·rw [bD,iz] at hj;split at hj
     ·rename_i fx;split at hj
      ·cases hj;subst fx
       exact ⟨_,by rw [List.length_set];exact e1,by rw [List.length_set];exact how,gJ,Mi hk hp h7,h8⟩
      ·cases hj
     ·rename_i fx;refine (hI.ob j y hj).ext hs.ext (fun b' bo he=>?_) (c6.refl K) (dJ.refl β) rfl (fun _ _ _ h=>h);subst he;exact fx (hI.dis i j _ dQ bo)
   exact h B K β w' _ hm bA (hF.put d (.v _))
theorem U2 (n:Nat) (z:List Value):(List.replicate n (kR z)).flatten=zs n z:=by
 induction n with
 | zero=>rfl
 | succ n ih=>rw [List.replicate_succ,flatten_cons,ih,zs]
theorem GL.Kn {x:Operand} {t e k iU:Nat} {z:List Value} [hT:pz P t e k iU] [hZ:qI P t e k z] {dt:Tmp} {n:Nat} (hx:a6 fr x=.v (ii (n:Nat))) (hb:n<=1099511627776/\iU * n<=281474976710656)
  (h:∀ a c,GL P m ops Q rest (bz fr (some dt) (.v (.slice a n c))) (Γ++[.vech e k (List.replicate n (kR z)) (.slice a n c)])) :
  GL P m ops Q (⟨some dt,.makeSlice t x x,ty,pos,af,none⟩::rest) fr Γ:=fun B K β w l hm hI hF=>by
 obtain ⟨hu,⟨i,z0,hi,hz,Om,cB,yG⟩,hk⟩:=hT.parts;have sH:ev l x=ii (n:Nat):=hF.ij hx;obtain ⟨w',hr,F,h3⟩:=run_make_full (P:=P) (w:=w) 0 t e i z0 k hu hi hz cB .i64 .i64 n (by rw [yG];exact hb.2) (by simp only [maxLen];omega) (aX _)
 have Hv:z0.cells.toList=z:=by
  have h4:=hZ.zero;rw [hi] at h4;simp only [Option.bind_some,hz,Option.some.injEq] at h4;have hl:=hZ.zl
  by_cases I:k=1
  ·rw [ae I] at h4;rw [h4,hZ.one I];subst I
   match z,hl with
   | [a],_=>rfl
  ·rw [ab I] at h4;rw [h4];rfl
 have Hc:(madeCells z0.cells (n * k)).toList=(List.range (n * k)).map fun j=>z.getD (j % k) undef:=by
  unfold madeCells;rw [Array.toList_map,Array.toList_range];apply List.map_congr_left;intro j _
  have ar:j % k < z0.cells.size:=by rw [Om];exact Nat.mod_lt _ hk
  rw [Om,getElem!_pos z0.cells (j % k) ar,<-Hv,List.getD_eq_getElem?_getD,Array.getElem?_toList,Array.getElem?_eq_getElem ar];rfl
 rw [Hc] at F;have gJ:=IC (K:=K) (β:=β) (n:=n) hZ.zl hZ.pos;rw [<-U2] at gJ
 have eT:gE k (List.replicate n (kR z)):=fun r hr=>by
  have:=List.eq_of_mem_replicate hr;subst this;refine ⟨by rw [<-hZ.zl];simp [kR],fun g hg=>?_⟩;unfold kR at hg;obtain ⟨v,_,rfl⟩:=tI.1 hg;rfl
 have gU:Ext jc w w':=⟨h3.os,h3.tape,h3.output,h3.size,fun j hj _=>h3.block j hj (by simp)⟩;have bA:=hI.Ga (x:=.slice (some ⟨w.heap.size,0,none⟩) n n) (rows:=List.replicate n (kR z)) gU (by rw [List.length_replicate];exact F) (fun b hb=>by cases hb;exact aH _) gJ eT
 have Z0:(Γ++[Ob.vec e k 0 (List.replicate n (kR z))])[Γ.length]?=some (Ob.vec e k 0 (List.replicate n (kR z))):=by simp
 obtain ⟨a,c,qQ,o8⟩:=bA.vK Z0;rw [bq] at qQ
 injection qQ with Az fv
 injection Az with yE hb4 hb5
 subst yE hb5
 have hos:oset (Γ++[.vec e k 0 (List.replicate n (kR z))]) Γ.length (.vech e k (List.replicate n (kR z)) (.slice (some ⟨w.heap.size,0,none⟩) (List.replicate n (kR z)).length n))=Γ++[.vech e k (List.replicate n (kR z)) (.slice (some ⟨w.heap.size,0,none⟩) (List.replicate n (kR z)).length n)]:=by
  rw [bD];simp
 rw [hos,List.length_replicate] at o8;refine WL.val (v:=.slice (some ⟨w.heap.size,0,none⟩) n n) (w':=w') (by simp [execOp,sH,hr]) ?_;exact h _ _ B K _ w' _ hm o8 ((hF.mono (c6.refl K) (ic (by rw [hI.out _ (aH _)];trivial))).put (some dt) (.v _))
end
end Go.Xg
namespace Go.Xg
open GV (U)
open Go.RowKit Go.Xw Go.Proofs Tryz
open Go.Xp (Nd Ar)
open Go.Sp (Src)
open Go.Im (wS dk bs oI sN gi dB oH oG oF)
open Go.Im (qd qc qb)
attribute [local irreducible] GW GL GO YG GC GA ba bc
theorem RH (l:List Int) (hl:l.length<=1048576):GF prog 64 [ints l] [] (ints l) []:=by
 have hm:(l.map (fun i=>[GV.v (ii i)])).length=l.length:=by simp
 refine ai func64 ntmps64 ?_;refine GL.Kn rfl ⟨by omega,by omega⟩ ?_;intro a c;refine cm ?_;refine G ?_;refine GW.loop (fun k:Nat=>l.length - k) (fun k fr Γ=>∃ R Z,fr=[ints l,U,U,.v (.slice a (l.map (fun i=>[GV.v (ii i)])).length c),.v (ii (k:Nat)),U,U,U,U,U,U,U,U,U,U,U,U,U,U,U,U,U]/\Γ=[.vech 3 1 R (.slice a (l.map (fun i=>[GV.v (ii i)])).length c)]/\k<=l.length/\R=(l.take k).map (fun i=>[GV.v (ii i)])++List.replicate (l.length - k) Z) 0 ?_ ?_
 ·exact ⟨_,_,Wk.aK av,_,_,rfl,rfl,aX _,by rw [hm];rfl⟩
 rintro k _ _ ⟨R,Z,rfl,rfl,hk,hR⟩
 have wg:R.length=l.length:=by rw [hR];exact qc hk
 have jy:R.length=(l.map (fun i=>[GV.v (ii i)])).length:=by rw [hm];exact wg
 by_cases ar:k < l.length
 ·have hx:l[k]?=some l[k]:=by simp [ar]
  have hr:(l.map (fun i=>[GV.v (ii i)]))[k]?=some ([GV.v (ii l[k])]):=by rw [aV,hx];rfl
  have fw:decide ((k:Int) < ((l.map (fun i=>[GV.v (ii i)])).length:Int))=true:=by rw [hm];simpa using ar
  have eV:=qd (f:=(fun i=>[GV.v (ii i)])) (Z:=Z) hx;rw [<-hR] at eV;clear hR;generalize l[k]=x at *;refine G ?_;refine wU ?_;refine G ?_;exact ⟨k+1,⟨_,_,Wk.aK av,_,Z,rfl,rfl,ar,eV⟩,by show l.length - (k+1) < l.length - k;omega⟩
 ·have fw:decide ((k:Int) < ((l.map (fun i=>[GV.v (ii i)])).length:Int))=false:=by rw [hm];simpa using ar
  have sC:k=l.length:=by omega
  subst sC;rw [qb] at hR;subst hR;refine dd ?_;refine GW.wk (by apply Wk.pZ (t:=3) (i:=0) <;> rfl) ?_;simp only [oset,bH];exact ax
theorem AU (l:List ah) (hl:l.length<=1048576):GF prog 24 [strs l] [] (strs l) []:=by
 have hm:(l.map (fun s=>[GV.v (sv s)])).length=l.length:=by simp
 refine ai func24 ntmps24 ?_;refine GL.Kn rfl ⟨by omega,by omega⟩ ?_;intro a c;refine cm ?_;refine G ?_;refine GW.loop (fun k:Nat=>l.length - k) (fun k fr Γ=>∃ R Z,fr=[strs l,U,U,.v (.slice a (l.map (fun s=>[GV.v (sv s)])).length c),.v (ii (k:Nat)),U,U,U,U,U,U,U,U,U,U,U,U,U,U,U,U,U]/\Γ=[.vech 9 1 R (.slice a (l.map (fun s=>[GV.v (sv s)])).length c)]/\k<=l.length/\R=(l.take k).map (fun s=>[GV.v (sv s)])++List.replicate (l.length - k) Z) 0 ?_ ?_
 ·exact ⟨_,_,Wk.aK av,_,_,rfl,rfl,aX _,by rw [hm];rfl⟩
 rintro k _ _ ⟨R,Z,rfl,rfl,hk,hR⟩
 have wg:R.length=l.length:=by rw [hR];exact qc hk
 have jy:R.length=(l.map (fun s=>[GV.v (sv s)])).length:=by rw [hm];exact wg
 by_cases ar:k < l.length
 ·have hx:l[k]?=some l[k]:=by simp [ar]
  have hr:(l.map (fun s=>[GV.v (sv s)]))[k]?=some ([GV.v (sv l[k])]):=by rw [aV,hx];rfl
  have fw:decide ((k:Int) < ((l.map (fun s=>[GV.v (sv s)])).length:Int))=true:=by rw [hm];simpa using ar
  have eV:=qd (f:=(fun s=>[GV.v (sv s)])) (Z:=Z) hx;rw [<-hR] at eV;clear hR;generalize l[k]=x at *;refine G ?_;refine wU ?_;refine G ?_;exact ⟨k+1,⟨_,_,Wk.aK av,_,Z,rfl,rfl,ar,eV⟩,by show l.length - (k+1) < l.length - k;omega⟩
 ·have fw:decide ((k:Int) < ((l.map (fun s=>[GV.v (sv s)])).length:Int))=false:=by rw [hm];simpa using ar
  have sC:k=l.length:=by omega
  subst sC;rw [qb] at hR;subst hR;refine dd ?_;refine GW.wk (by apply Wk.pZ (t:=3) (i:=0) <;> rfl) ?_;simp only [oset,bH];exact ax
theorem Pv (x:Ar):GF prog 46 [.agg (aL x)] [] (.agg (aL x)) []:=by
 refine ai func46 ntmps46 ?_;exact dF
theorem Mt (l:List Ar) (hl:l.length<=1048576):GF prog 25 [.sl 2 (l.map aL)] [] (.sl 2 (l.map aL)) []:=by
 have hm:(l.map aL).length=l.length:=by simp
 refine ai func25 ntmps25 ?_;refine GL.Kn rfl ⟨by omega,by omega⟩ ?_;intro a c;refine cm ?_;refine G ?_;refine GW.loop (fun k:Nat=>l.length - k) (fun k fr Γ=>∃ R Z,fr=[.sl 2 (l.map aL),U,U,.v (.slice a (l.map aL).length c),.v (ii (k:Nat)),U,U,U,U,U,U,U,U,U,U,U,U,U,U,U,U,U,U]/\Γ=[.vech 78 2 R (.slice a (l.map aL).length c)]/\k<=l.length/\R=(l.take k).map aL++List.replicate (l.length - k) Z) 0 ?_ ?_
 ·exact ⟨_,_,Wk.aK av,_,_,rfl,rfl,aX _,by rw [hm];rfl⟩
 rintro k _ _ ⟨R,Z,rfl,rfl,hk,hR⟩
 have wg:R.length=l.length:=by rw [hR];exact qc hk
 have jy:R.length=(l.map aL).length:=by rw [hm];exact wg
 by_cases ar:k < l.length
 ·have hx:l[k]?=some l[k]:=by simp [ar]
  have hr:(l.map aL)[k]?=some (aL l[k]):=by rw [aV,hx];rfl
  have fw:decide ((k:Int) < ((l.map aL).length:Int))=true:=by rw [hm];simpa using ar
  have eV:=qd (f:=aL) (Z:=Z) hx;rw [<-hR] at eV;have hc:=Pv l[k];clear hR;generalize l[k]=x at *;refine G ?_;refine D [] hc ?_;refine wU ?_;refine G ?_;exact ⟨k+1,⟨_,_,Wk.aK av,_,Z,rfl,rfl,ar,eV⟩,by show l.length - (k+1) < l.length - k;omega⟩
 ·have fw:decide ((k:Int) < ((l.map aL).length:Int))=false:=by rw [hm];simpa using ar
  have sC:k=l.length:=by omega
  subst sC;rw [qb] at hR;subst hR;refine dd ?_;refine GW.wk (by apply Wk.pZ (t:=3) (i:=0) <;> rfl) ?_;simp only [oset,bH];exact ax
theorem Xe (x:Go.Sp.Fn) (hp:x.params.length<=1048576):GF prog 47 [.agg (ay x)] [] (.agg (ay x)) []:=by
 have h0:=AU x.params hp;refine ai func47 ntmps47 ?_;refine D [] h0 ?_;exact dF
theorem UY (l:List Go.Sp.Fn) (hl:l.length<=1048576) (he:∀ x∈l,x.params.length<=1048576):GF prog 26 [.sl 3 (l.map ay)] [] (.sl 3 (l.map ay)) []:=by
 have hm:(l.map ay).length=l.length:=by simp
 refine ai func26 ntmps26 ?_;refine GL.Kn rfl ⟨by omega,by omega⟩ ?_;intro a c;refine cm ?_;refine G ?_;refine GW.loop (fun k:Nat=>l.length - k) (fun k fr Γ=>∃ R Z,fr=[.sl 3 (l.map ay),U,U,.v (.slice a (l.map ay).length c),.v (ii (k:Nat)),U,U,U,U,U,U,U,U,U,U,U,U,U,U,U,U,U,U]/\Γ=[.vech 77 3 R (.slice a (l.map ay).length c)]/\k<=l.length/\R=(l.take k).map ay++List.replicate (l.length - k) Z) 0 ?_ ?_
 ·exact ⟨_,_,Wk.aK av,_,_,rfl,rfl,aX _,by rw [hm];rfl⟩
 rintro k _ _ ⟨R,Z,rfl,rfl,hk,hR⟩
 have wg:R.length=l.length:=by rw [hR];exact qc hk
 have jy:R.length=(l.map ay).length:=by rw [hm];exact wg
 by_cases ar:k < l.length
 ·have hx:l[k]?=some l[k]:=by simp [ar]
  have hr:(l.map ay)[k]?=some (ay l[k]):=by rw [aV,hx];rfl
  have fw:decide ((k:Int) < ((l.map ay).length:Int))=true:=by rw [hm];simpa using ar
  have eV:=qd (f:=ay) (Z:=Z) hx;rw [<-hR] at eV;have hex:=he _ (bm hx);have hc:=Xe l[k] hex;clear hR;generalize l[k]=x at *;refine G ?_;refine D [] hc ?_;refine wU ?_;refine G ?_;exact ⟨k+1,⟨_,_,Wk.aK av,_,Z,rfl,rfl,ar,eV⟩,by show l.length - (k+1) < l.length - k;omega⟩
 ·have fw:decide ((k:Int) < ((l.map ay).length:Int))=false:=by rw [hm];simpa using ar
  have sC:k=l.length:=by omega
  subst sC;rw [qb] at hR;subst hR;refine dd ?_;refine GW.wk (by apply Wk.pZ (t:=3) (i:=0) <;> rfl) ?_;simp only [oset,bH];exact ax
theorem RI (x:Nd) (hp:x.kids.length<=1048576):GF prog 48 [.agg (aB x)] [] (.agg (aB x)) []:=by
 have h0:=RH x.kids hp;refine ai func48 ntmps48 ?_;refine D [] h0 ?_;exact dF
theorem Pw (l:List Nd) (hl:l.length<=1048576) (he:∀ x∈l,x.kids.length<=1048576):GF prog 27 [.sl 5 (l.map aB)] [] (.sl 5 (l.map aB)) []:=by
 have hm:(l.map aB).length=l.length:=by simp
 refine ai func27 ntmps27 ?_;refine GL.Kn rfl ⟨by omega,by omega⟩ ?_;intro a c;refine cm ?_;refine G ?_;refine GW.loop (fun k:Nat=>l.length - k) (fun k fr Γ=>∃ R Z,fr=[.sl 5 (l.map aB),U,U,.v (.slice a (l.map aB).length c),.v (ii (k:Nat)),U,U,U,U,U,U,U,U,U,U,U,U,U,U,U,U,U,U]/\Γ=[.vech 60 5 R (.slice a (l.map aB).length c)]/\k<=l.length/\R=(l.take k).map aB++List.replicate (l.length - k) Z) 0 ?_ ?_
 ·exact ⟨_,_,Wk.aK av,_,_,rfl,rfl,aX _,by rw [hm];rfl⟩
 rintro k _ _ ⟨R,Z,rfl,rfl,hk,hR⟩
 have wg:R.length=l.length:=by rw [hR];exact qc hk
 have jy:R.length=(l.map aB).length:=by rw [hm];exact wg
 by_cases ar:k < l.length
 ·have hx:l[k]?=some l[k]:=by simp [ar]
  have hr:(l.map aB)[k]?=some (aB l[k]):=by rw [aV,hx];rfl
  have fw:decide ((k:Int) < ((l.map aB).length:Int))=true:=by rw [hm];simpa using ar
  have eV:=qd (f:=aB) (Z:=Z) hx;rw [<-hR] at eV;have hex:=he _ (bm hx);have hc:=RI l[k] hex;clear hR;generalize l[k]=x at *;refine G ?_;refine D [] hc ?_;refine wU ?_;refine G ?_;exact ⟨k+1,⟨_,_,Wk.aK av,_,Z,rfl,rfl,ar,eV⟩,by show l.length - (k+1) < l.length - k;omega⟩
 ·have fw:decide ((k:Int) < ((l.map aB).length:Int))=false:=by rw [hm];simpa using ar
  have sC:k=l.length:=by omega
  subst sC;rw [qb] at hR;subst hR;refine dd ?_;refine GW.wk (by apply Wk.pZ (t:=3) (i:=0) <;> rfl) ?_;simp only [oset,bH];exact ax
theorem tG (x:Src) (hg:x.globals.length<=1048576) (ha:x.arrays.length<=1048576) (hf:x.fns.length<=1048576) (uw:∀ f∈x.fns,f.params.length<=1048576) (hn:x.nodes.length<=1048576) (sF:∀ n∈x.nodes,n.kids.length<=1048576):GF prog 9 [.agg (ao x)] [] (.agg (ao x)) []:=by
 have h0:=AU x.globals hg;have I:=Mt x.arrays ha;have F:=UY x.fns hf uw;have h3:=Pw x.nodes hn sF;refine ai func9 ntmps9 ?_;refine D [] h0 ?_;refine D [] I ?_;refine D [] F ?_;refine D [] h3 ?_;exact dF
end Go.Xg
