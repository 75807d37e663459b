/- Part 5 of proofs that are told in their last texts. -/
import Derived.Test.YtfahcenafcklmaaGreatDoorQ4
import Derived.IntWalk
import Derived.Laws.IdiomStrings
import Derived.Test.YtfahcenafcklmaaGreatDoorProg
import Derived.KernelRfl
import Derived.Test.YtfahcenafcklmaaGreatDoorQ1
import Derived.Test.YtfahcenafcklmaaGreatDoorQ2
import Derived.Deep.Slices
import Derived.Deep.Fields
import Derived.ChangeSame
import Derived.Lib.SmallJoins
import Derived.SliceStrings
import Derived.ChangeSlices
import Derived.Lib.LaidU8
import Derived.Shelf.Vars
import Derived.Laws.Bits128
import Derived.Lib.AppendStr
import Derived.Lib.Builder
import Derived.Lib.UnsafeStr
import Derived.Test.YtfahcenafcklmaaGreatDoorQ3
import Derived.Laws.OwnMore
open List (cons_append ext_getElem flatten_cons getElem_mem length_append length_cons length_nil mem_cons_self sum_cons)
set_option linter.unusedVariables false
set_option linter.unusedSimpArgs false
set_option maxRecDepth 100000
namespace Go.Xg
open Go.RowKit Go.Xw
section
variable {P:Program} {m:Nat} {Q:eC} {fr:List GV} {Γ:List Ob} {ops:Array Oper} {rest:List Oper} {d:Option Tmp} {op:Op} {ty:TypeId} {pos:String} {af:Array Edge}
theorem GW.join {c y:Code} (K:List GV->List Ob->Prop) (I:GW P m c (aU (CM m K) Q) fr Γ) (G:∀ fr Γ,K fr Γ->GW P m y Q fr Γ):GW P m c (aU (GW P m y Q) Q) fr Γ:=by
 refine I.mono fun e fr Γ hq=>?_
 cases e with
 | normal=>obtain ⟨cV,aZ,hw,hk⟩:=hq;exact GW.wk hw (G _ _ hk)
 | _=>exact hq
theorem YG.cq {x y:Operand} {t e:TypeId} {k:Nat} [hT:pW P t e k] {rows:List (List GV)} {kk:IntKind} {n:Int} {i:Nat} {r:List GV} (hx:bq fr x=.sl k rows) (hy:bq fr y=.v (.int kk n)) (hr:rows[i]?=some r) (hi:n=(i:Int)):YG P (.indexAddr t x y) fr Γ (.box r 0):=by
 subst hi;exact YG.hO hx hy hr
def oG:List (List GV)->Bool
 | []=>true
 | r::rs=>pP r&&oG rs
theorem E7 {rows:List (List GV)} (h:oG rows=true):pP rows.flatten=true:=by
 induction rows with
 | nil=>rfl
 | cons r rs ih =>
  simp only [oG,aK] at h
  have adb:∀ (a b:List GV),pP a=true->pP b=true->pP (a++b)=true:=by
   intro a
   induction a with
   | nil=>intro b _ hb;exact hb
   | cons x a Bz =>
    intro b ha hb;simp only [pP,aK] at ha;simp only [cons_append,pP,aK];exact ⟨ha.1,Bz b ha.2 hb⟩
  rw [flatten_cons];exact adb _ _ h.1 (ih h.2)
theorem GL.app {s x:Operand} {t e k lG:Nat} [hT:rR P t e k lG] {i n fz:Nat} {rows news:List (List GV)} (hx:bq fr x=.sl k news) (hs:bq fr s=.vec i n) (bH:Γ[i]?=some (.vec e k fz rows)) (hn:rows.length=n) (I:oG news=true) (cj:news.isEmpty=false)
  (hb:n+news.length<=9223372036854775807/\(n+news.length) * lG<=140737488355328)
  (h:GL P m ops Q rest (bR fr d (.vec i (n+news.length))) (oset Γ i (.vec e k fz (rows++news)))) :
  GL P m ops Q (⟨d,.call ⟨.builtin .append,#[s,x],#[t,t]⟩,ty,pos,af,none⟩::rest) fr Γ:=fun B K β w l hm hI hF=>by
 subst hn
 have cj:news≠[]:=by intro h0;rw [h0] at cj;cases cj
 obtain ⟨h0,xs,o1,o2,o3,o4,o5,o6⟩:=hI.ob i _ bH;have wZ:=hF.ev s;rw [hs] at wZ
 have uo:ev l s=h0:=by
  generalize hv:ev l s=v at wZ
  cases wZ with
  | vec _ _ a c hh =>
   obtain ⟨h',m',e1,e2,e3⟩:=hh;rw [o1] at e1;cases e1;exact e3 rfl
 have vr:=hF.ev x;rw [hx] at vr;generalize w5:ev l x=v at vr
 cases vr with
 | sl0 a c k=>exact absurd rfl cj
 | sl b o c _ _ hr _ =>
  have oD:kp k news:=fun r Sb=>by
   exact zbA
  have Il:∀ (rows:List (List GV)) (o:Nat),(∀ (j:Nat) r,rows[j]?=some r->r.length=k/\∀ (q:Nat) g,r[q]?=some g->K b (o+j * k+q)=some g)->∀ (q:Nat) g,rows.flatten[q]?=some g->K b (o+q)=some g:=by
   intro rows
   induction rows with
   | nil=>intro o _ q g hg;simp at hg
   | cons r rows ih =>
    intro o h q g hg;rw [flatten_cons] at hg;have hl:=(h 0 r rfl).1
    by_cases hq:q < r.length
    ·rw [gm hq] at hg;have:=(h 0 r rfl).2 q g hg;exact zcm
    ·rw [gR zgb,hl] at hg
     have:=ih (o+k) (fun j r' hj=>by
      have:=h (j+1) r' zgp;refine ⟨this.1,fun q g hg=>?_⟩;have:=this.2 q g hg
      rw [show o+(j+1) * k+q=o+k+j * k+q by rw [Nat.succ_mul];omega] at this;exact this) (q - k) g hg
     rw [show o+k+(q - k)=o+q by omega] at this;exact this
  obtain ⟨us,oX,qf⟩:=zD (K:=K) (β:=β) (H:=w.heap) (b:=b) news.flatten o (fun j g hj=>by
   obtain ⟨hp,u,hu,kj⟩:=hI.fz _ _ _ (Il news o (fun j r hj=>hr j r hj) j g hj)
   exact ⟨u,hu,kj.pc hp⟩)
  have JZ:us.length=news.length * k:=by
   rw [oX.1,List.length_flatten]
   have:∀ (rows:List (List GV)),kp k rows->(rows.map List.length).sum=rows.length * k:=by
    intro rows
    induction rows with
    | nil=>intro _;simp
    | cons r rows ih =>
     intro hk;exact zcG
   exact this news oD
  refine WL.app (base:=0) (v:=h0) (n:=rows.length) (m:=news.length) (xs:=xs) (news:=us) uo o2 w5 JZ (fun j u hj=>by rw [gU];exact qf j u hj) (oX.pO (E7 I)) hb.1 hb.2 (aS _) ?_;intro v' w' how lf sS yT
  obtain ⟨K',hK,nW,bE⟩:=hI.grow bH o1 ⟨o2,o3⟩ (news:=news) (ns:=us) how lf sS oX oD cj (fun b bG o v ho hv=>by
   rcases yT with h7 | h7
   ·exact h7.c hv (fun h=>h)
   ·have kR:o < xs.length:=by rw [o2.1];exact AA ho (ua k o6)
    obtain ⟨b2,c2,oU,_,_,mu⟩:=o2.cells.2 (by intro h0;rw [h0] at kR;simp at kR)
    have eM:b2=b:=by rw [oU] at bG;cases bG;rfl
    subst eM;have Hq:=mu o xs[o] (by simp [kR]);rw [gU,hv] at Hq;cases Hq;obtain ⟨b3,c3,RU,_,_,RR⟩:=how.cells.2 (by intro h0;have:xs=[]:=(List.append_eq_nil_iff.1 h0).1;rw [this] at kR;simp at kR)
    have wM:b3=b2:=by rw [RU,bG] at h7;cases h7;rfl
    subst wM
    rw [<-gU];exact RR o _ zg5)
  rw [<-bQ] at bE;refine h B K' _ w' _ hm bE ((hF.mono hK nW).put d ?_);obtain ⟨a,c,rfl⟩:=how.shape;exact .vec i _ a c ⟨_,_,bI,by simp,fun _=>by simp⟩
theorem Wk.Ks {i o:Nat} {T:TypeId} {cs:List GV} (E k:Nat) (hi:Γ[i]?=some (.box T cs)) (ho:cs[o]?=some (.v (.slice none 0 0))):Wk m fr Γ fr (oset Γ i (.box T (bX cs o (.vec Γ.length 0)))++[.vec E k 0 []]):=fun B K β w l hm hI hF=>by
 have cS:β Γ.length=.no:=hI.out _ (aI _);have au:i < Γ.length:=(bB hi).1;have bE:=hI.OC (w':=w) (E:=E) (k:=k) (x:=.slice none 0 0) (xs:=[]) (rows:=[]) (Ext.refl w) (jH.nil w 0 E k) (fun b hb=>by cases hb) bC.nil (fun r hr=>by cases hr);have hle:eg β (fZ β Γ.length (.gr (.slice none 0 0) ([]:List (List GV)).length)):=kq zgG;refine ⟨K,_,⟨bE.ext,bE.kle,bE.ble,bE.loc,bE.fz,fun j x hj=>?_,fun j hj=>bE.out j (by simp [bQ] at hj |-;exact hj),bE.dis,bE.own,bE.kn,bE.tab⟩,hF.mono (df.refl K) hle⟩
 by_cases lS:j=i
 ·subst lS;rw [gm (by simp [bQ];exact au),bQ,fb] at hj;simp [au] at hj;subst hj;obtain ⟨b,vs,I,G,h3,h4⟩:=bE.ob j (.box T cs) (by rw [gm au];exact hi);refine ⟨b,vs,I,G,?_,h4⟩
  have gen:∀ (vs:List Value) (cs:List GV) (o:Nat),bC K (fZ β Γ.length (.gr (.slice none 0 0) ([]:List (List GV)).length)) vs cs->cs[o]?=some (.v (.slice none 0 0))->bC K (fZ β Γ.length (.gr (.slice none 0 0) ([]:List (List GV)).length)) vs (bX cs o (.vec Γ.length 0)):=by
   intro vs
   induction vs with
   | nil=>intro cs o h ho;exact zd2
   | cons v vs ih =>
    intro cs o h ho
    cases cs with
    | nil=>simp at ho
    | cons c cs =>
     obtain ⟨a1,a2⟩:=h.rj
     cases o with
     | zero =>
      cases ho;have hv:=Rel.eJ a1;subst hv;exact .cons (.vec _ 0 none 0 ⟨_,_,bI,aI _,fun _=>rfl⟩) a2
     | succ o=>exact .cons a1 (ih cs o a2 (by simpa using ho))
  exact gen vs cs o h3 ho
 ·refine bE.ob j x ?_
  by_cases qd:j < Γ.length
  ·rw [gm (by simp [bQ];exact qd),bQ,fb,ab (fun e=>lS e.symm)] at hj;rw [gm qd];exact hj
  ·rw [gR (by simp [bQ];omega)] at hj;rw [gR zgb];simpa [bQ] using hj
theorem Wk.Au {i o j n E k fz:Nat} {T:TypeId} {cs:List GV} {rows:List (List GV)} (hi:Γ[i]?=some (.box T cs)) (ho:cs[o]?=some (.vec j n)) (fy:Nat.beq i j=false) (hj:Γ[j]?=some (.vec E k fz rows)) (hn:rows.length=n):Wk m fr Γ fr (oset (oset Γ j (.vec E k n rows)) i (.box T (bX cs o (.sl k rows)))):=fun B K β w l hm hI hF=>by
 subst hn
 have cj:i≠j:=by intro e;subst e;simp at fy
 obtain ⟨h0,xs,o1,o2,o3,o4,o5,o6⟩:=hI.ob j _ hj;obtain ⟨K',hK,CY,bE⟩:=hI.jY hj;rw [<-bQ] at bE;refine ⟨K',β,⟨bE.ext,bE.kle,bE.ble,bE.loc,bE.fz,fun q x hq=>?_,fun q hq=>bE.out q (by simpa [bQ] using hq),bE.dis,bE.own,bE.kn,bE.tab⟩,hF.mono hK (eg.refl β)⟩
 by_cases Xb:q=i
 ·subst Xb;have au:q < Γ.length:=(bB hi).1;rw [bQ,fb] at hq;simp [bQ,au] at hq;subst hq;obtain ⟨b,vs,I,G,h3,h4⟩:=bE.ob q (.box T cs) zgs;refine ⟨b,vs,I,G,?_,h4⟩
  have gen:∀ (vs:List Value) (cs:List GV) (o:Nat),bC K' β vs cs->cs[o]?=some (.vec j rows.length)->bC K' β vs (bX cs o (.sl k rows)):=by
   intro vs
   induction vs with
   | nil=>intro cs o h ho;exact zd2
   | cons v vs ih =>
    intro cs o h ho
    cases cs with
    | nil=>simp at ho
    | cons c cs =>
     obtain ⟨a1,a2⟩:=h.rj
     cases o with
     | zero =>
      cases ho;refine .cons ?_ a2
      cases a1 with
      | vec _ _ a c hh =>
       obtain ⟨h',m',e1,e2,e3⟩:=hh;rw [o1] at e1;cases e1;have e4:=e3 rfl
       rcases o2.2 with ⟨e5,e6⟩ | ⟨g,cap,cu,e5,_,_,ui,_⟩
       ·have:rows=[]:=ig e6;subst this;exact .sl0 _ _ _
       ·rw [e5] at e4;cases e4;exact zb8
     | succ o=>exact .cons a1 (ih cs o a2 (by simpa using ho))
  exact gen vs cs o h3 ho
 ·rw [bQ,fb,ab (fun e=>Xb e.symm)] at hq;exact bE.ob q x hq
end
class Ox (P:Program) (t:TypeId) (k:outParam IntKind):Prop where
 und:P.underlying t=some (.int k)
class Qe (P:Program) (t:TypeId):Prop where
 und:∃ e,P.underlying t=some (.slice e)/\P.underlying e=some (.int .u8)
theorem Qe.mk' {P:Program} {t e:TypeId} (h:P.underlying t=some (.slice e)) (k:P.underlying e=some (.int .u8)):Qe P t:=⟨e,h,k⟩
section
variable {P:Program} {m:Nat} {Q:eC} {fr:List GV} {Γ:List Ob} {ops:Array Oper} {rest:List Oper} {d:Option Tmp} {op:Op} {ty:TypeId} {pos:String} {af:Array Edge}
theorem YG.ml {x y:Operand} {t t':TypeId} {a b:Int} (hx:bq fr x=.v (.int .u8 a)) (hy:bq fr y=.v (.int .u8 b)) (hb:0<=a - b/\a - b<=255):YG P (.binOp .sub t x y t') fr Γ (.v (.int .u8 (a - b))) :=
 YG.v2 hx hy fun l w h k d ty pos af=>by simp [execOp,eqGuard,h,k,binOp,Op.intArith,IntWalk.u8_in _ hb]
theorem YG.quo {x y:Operand} {t t':TypeId} {a b:Int} (hx:bq fr x=.v (ii a)) (hy:bq fr y=.v (ii b)) (hb:0<=a/\a<=9223372036854775807/\1<=b):YG P (.binOp .quo t x y t') fr Γ (.v (ii (a / b))) :=
 YG.v2 hx hy fun l w h k d ty pos af=>by
  have cj:b≠0:=by omega
  simp [execOp,eqGuard,h,k,binOp,Op.intDiv,cj,IntWalk.i64_quo a b hb]
theorem YG.rem {x y:Operand} {t t':TypeId} {a b:Int} (hx:bq fr x=.v (ii a)) (hy:bq fr y=.v (ii b)) (hb:0<=a/\1<=b):YG P (.binOp .rem t x y t') fr Γ (.v (ii (a % b))) :=
 YG.v2 hx hy fun l w h k d ty pos af=>by
  have cj:b≠0:=by omega
  simp [execOp,eqGuard,h,k,binOp,Op.intDiv,cj,IntWalk.rem_in a b hb.1]
theorem YG.nO {x:Operand} {s t:TypeId} {k k':IntKind} {a:Int} [hS:Ox P s k'] [hT:Ox P t k] (hx:bq fr x=.v (.int k' a)) (hw:k.wrap a=a):YG P (.convert s t x) fr Γ (.v (.int k a)) :=
 YG.v1 hx fun l w h d ty pos af=>by simp [execOp,h,convert,run_underlying hS.und,run_underlying hT.und,Conv.intToInt,hw]
theorem YG.str {x:Operand} {s t:TypeId} {l:ae} {rows:List (List GV)} [hS:Qe P s] [hT:tw P t] (hx:bq fr x=.sl 1 rows) (hr:rows=l.map fun c=>[.v (.int .u8 (c.toNat:Int))]):YG P (.convert s t x) fr Γ (.v (sv l)):=fun B K β w fl hI hF=>by
 subst hr;obtain ⟨e,I,G⟩:=hS.und;have h:=hF.ev x;rw [hx] at h;generalize hv:ev fl x=v at h;refine ⟨_,fun d ty pos af=>?_,.v _⟩
 have key:(convert s t v).run P w=.ok (sv l) w:=by
  generalize oD:(l.map fun c=>[GV.v (.int .u8 (c.toNat:Int))])=rows at h
  cases h with
  | sl0 a c =>
   have:l=[]:=by cases l with | nil=>rfl | cons x l=>simp at oD
   subst this
   cases a with
   | none=>rw [run_convert_bytes_string w s t e none 0 c I G hT.und];simp [Conv.bytesToString];rfl
   | some a=>exact run_convert_bytes_back w s t e a c [] I G hT.und (fun j hj=>by simp at hj)
  | sl b o c _ _ hc _ =>
   have hl:rows.length=l.length:=by rw [<-oD];simp
   rw [hl];refine run_convert_bytes_back w s t e ⟨b,o,none⟩ c l I G hT.und (fun j hj=>?_)
   have bD:rows[j]?=some [GV.v (.int .u8 (l[j].toNat:Int))]:=by rw [<-oD];simp [hj]
   obtain ⟨_,u,hu,kj⟩:=hI.fz _ _ _ ((hc j _ bD).2 0 _ rfl);rw [tA,gU];have:=Rel.eJ kj;subst this;simpa using hu
 simp [execOp,hv,key]
end
structure Hid (B:Prop):Prop where
 h:B
structure wy (aY:List Nat) (C:Prop):Prop where
 h:C
section
variable {P:Program} {m:Nat} {ops:Array Oper} {Q:eC} {rest:List Oper} {fr:List GV} {Γ:List Ob} {d:Option Tmp} {ty:TypeId} {pos:String} {af:Array Edge}
theorem GL.yA {f:FuncId} [hf:aO P f] {aY:List Nat} {args:List Operand} {rJ:Array TypeId} {gs:List GV} {kx uV:List Ob} {g:GV} (hc:wy aY (GF P f gs kx g uV)) (ha:n9 (args.map (bq fr)) (pb (cY aY Γ.length) gs)) (fA:lV aY Γ.length=true)
  (bH:seen (cY aY Γ.length) Γ aY kx) (hl:Nat.ble aY.length uV.length=true) (h:GL P m ops Q rest (bR fr d (fc (cY aY Γ.length) g)) (fS Γ aY (uV.map (Ob.fc (cY aY Γ.length))))) :
  GL P m ops Q (⟨d,.call ⟨.value (.func f),args.toArray,rJ⟩,ty,pos,af,none⟩::rest) fr Γ:=GL.Wz aY hc.h ha fA bH hl h
theorem GL.ZW {f:FuncId} [hf:aO P f] {aY:List Nat} {args:List Operand} {rJ:Array TypeId} {gs:List GV} {kx:List Ob} {R:GV->List Ob->Prop} (hc:wy aY (GC P f gs kx R)) (ha:n9 (args.map (bq fr)) (pb (cY aY Γ.length) gs)) (fA:lV aY Γ.length=true)
  (bH:seen (cY aY Γ.length) Γ aY kx) (h:∀ g aZ,R g aZ->aY.length<=aZ.length/\GL P m ops Q rest (bR fr d (fc (cY aY Γ.length) g)) (fS Γ aY (aZ.map (Ob.fc (cY aY Γ.length))))) :
  GL P m ops Q (⟨d,.call ⟨.value (.func f),args.toArray,rJ⟩,ty,pos,af,none⟩::rest) fr Γ:=GL.OJ aY hc.h ha fA bH h
theorem GL.QJ {f:FuncId} [hf:aO P f] {aY:List Nat} {x:Operand} {first cap:List GV} {args:List Operand} {rJ:Array TypeId} {gs:List GV} {kx:List Ob} {R:GV->List Ob->Prop} (hc:wy aY (GC P f gs kx R)) (hx:bq fr x=.fn (.func f) first cap) (ha:first++args.map (bq fr)++cap=pb (cY aY Γ.length) gs) (fA:lV aY Γ.length=true)
  (bH:seen (cY aY Γ.length) Γ aY kx) (h:∀ g aZ,R g aZ->aY.length<=aZ.length/\GL P m ops Q rest (bR fr d (fc (cY aY Γ.length) g)) (fS Γ aY (aZ.map (Ob.fc (cY aY Γ.length))))) :
  GL P m ops Q (⟨d,.call ⟨.value x,args.toArray,rJ⟩,ty,pos,af,none⟩::rest) fr Γ:=GL.oB aY hc.h hx ha fA bH h
theorem GL.QI {f:FuncId} [hf:aO P f] {aY:List Nat} {x:Operand} {args:List Operand} {rJ:Array TypeId} {gs:List GV} {kx:List Ob} {R:GV->List Ob->Prop} (hc:wy aY (GC P f gs kx R)) (hx:bq fr x=.v (.func (.func f) #[] #[])) (ha:args.map (bq fr)=pb (cY aY Γ.length) gs) (fA:lV aY Γ.length=true)
  (bH:seen (cY aY Γ.length) Γ aY kx) (h:∀ g aZ,R g aZ->aY.length<=aZ.length/\GL P m ops Q rest (bR fr d (fc (cY aY Γ.length) g)) (fS Γ aY (aZ.map (Ob.fc (cY aY Γ.length))))) :
  GL P m ops Q (⟨d,.call ⟨.value x,args.toArray,rJ⟩,ty,pos,af,none⟩::rest) fr Γ:=GL.abG aY hc.h hx ha fA bH h
end
theorem aE {A : Prop} (s : A := by first | omega | assumption | (simp only [List.length_append,List.length_cons,List.length_nil];omega)) : A := s
theorem az {A : Prop} (s : A := by first | rfl | assumption) : A := s
theorem gQ {A : Prop} (s : A := by apply K.len;first | exact YG.acb rfl | exact YG.VB rfl | exact YG.adM rfl | exact YG.adN rfl | exact YG.lenA rfl) : A := s
theorem cB {A : Prop} (s : A := by first | exact .inr rfl | exact .inl rfl) : A := s
theorem fU {A : Prop} (s : A := by apply K.ld;first | exact YG.ldL rfl rfl az | exact YG.Vy rfl rfl rfl rfl | exact YG.ldV rfl rfl az az az | exact YG.SO rfl rfl az az az) : A := s
theorem TO {A : Prop} (s : A := by apply K.ld;first | exact YG.ldL rfl rfl az | exact YG.ldB rfl az | exact YG.Vy rfl rfl rfl rfl | exact YG.aaL rfl rfl rfl | exact YG.ldV rfl rfl az az az | exact YG.SO rfl rfl az az az) : A := s
theorem fa {A : Prop} (s : A := by apply K.nck;first | exact YG.adT rfl | exact YG.PH rfl) : A := s
theorem fp {A : Prop} (s : A := by apply K.pick;first | exact YG.XI rfl az | exact YG.XH rfl az) : A := s
theorem aJ {A : Prop} (s : A := by assumption) : A := s
theorem fV {A : Prop} (s : A := by omega) : A := s
theorem Fp {A : Prop} (s : A := by apply K.bin;first | exact YG.go rfl | exact YG.kG rfl rfl fV | exact YG.jt rfl rfl | exact YG.ju rfl rfl | exact YG.oO rfl rfl | exact YG.oY rfl rfl | exact YG.cat rfl rfl fV | exact YG.cat rfl rfl (by simp only [List.length_append,List.length_cons,List.length_nil];omega) | exact YG.addN rfl rfl fV | exact YG.add rfl rfl fV | exact YG.sub rfl rfl fV | exact YG.mul rfl rfl fV | exact YG.ml rfl rfl fV | exact YG.quo rfl rfl fV | exact YG.rem rfl rfl fV | exact YG.iH rfl rfl) : A := s
theorem Fq {A : Prop} (s : A := by apply K.qm;first | exact YG.mj rfl rfl rfl fV | exact YG.mi rfl rfl fV | exact YG.mh rfl rfl fV | exact YG.gz 1 rfl rfl rfl az) : A := s
theorem XU {A : Prop} (s : A := by apply K.idx;first | exact YG.idxV rfl rfl rfl az fV | exact YG.aP 0 rfl rfl rfl aE | exact YG.aP 1 rfl rfl rfl aE | exact YG.aP 2 rfl rfl rfl aE | exact YG.aP 3 rfl rfl rfl aE | exact YG.aP 4 rfl rfl rfl aE | exact YG.aP 5 rfl rfl rfl aE | exact YG.aP 6 rfl rfl rfl aE) : A := s
theorem XV {A : Prop} (s : A := by apply K.idx;first | exact YG.hO rfl rfl aJ | exact YG.cq rfl rfl aJ rfl | exact YG.cq rfl rfl aJ fV | exact YG.kJ rfl rfl fV | exact YG.idxV rfl rfl rfl az fV | exact YG.aP 0 rfl rfl rfl aE | exact YG.aP 1 rfl rfl rfl aE | exact YG.aP 2 rfl rfl rfl aE | exact YG.aP 3 rfl rfl rfl aE | exact YG.aP 4 rfl rfl rfl aE | exact YG.aP 5 rfl rfl rfl aE | exact YG.aP 6 rfl rfl rfl aE) : A := s
theorem B0 {A : Prop} (s : A := by first | rfl | exact IntWalk.i64_in _ fV | exact IntWalk.u8_in _ fV | assumption) : A := s
theorem Lu {A : Prop} (s : A := by apply K.idx;first | exact YG.hO rfl rfl aJ | exact YG.cq rfl rfl aJ rfl | exact YG.cq rfl rfl aJ fV | exact YG.kJ rfl rfl fV) : A := s
theorem fq {A : Prop} (s : A := by apply K.F7;first | exact YG.mkfn0 | exact YG.F7) : A := s
theorem fJ {A : Prop} (s : A := by apply K.ld;first | exact YG.ldB rfl az | exact YG.aaL rfl rfl rfl) : A := s
theorem TQ {A : Prop} (s : A := by apply K.fld;first | exact YG.aad rfl | exact YG.aab rfl | exact YG.fldV rfl rfl az | exact YG.aac rfl rfl az) : A := s
theorem Qb {A : Prop} (s : A := by first | exact YG.mv | exact YG.mG | exact Fp | exact TQ | exact TO | exact gQ | exact fa | exact fp | exact XV | exact YG.ext rfl rfl | exact YG.go rfl | exact Fq | exact YG.jC rfl rfl aJ | exact YG.idxSC rfl rfl aJ rfl | exact fq | exact YG.build rfl | exact YG.neg rfl fV | exact YG.jz rfl rfl | exact YG.nO rfl B0 | exact YG.str rfl az) : A := s
theorem fK {A : Prop} (s : A := by apply K.fld;first | exact YG.aad rfl | exact YG.aab rfl) : A := s
theorem fX {A : Prop} (s : A := by apply K.fld;first | exact YG.fldV rfl rfl az | exact YG.aac rfl rfl az) : A := s
theorem XT {A : Prop} (s : A := by first | exact fU | exact XU | exact fX | exact YG.fT 1 rfl rfl az az | exact YG.mv | exact YG.mG | exact Fp | exact fK | exact fJ | exact gQ | exact fa | exact fp | exact Lu | exact YG.ext rfl rfl | exact YG.go rfl | exact Fq | exact YG.jC rfl rfl aJ | exact YG.idxSC rfl rfl aJ rfl | exact fq | exact YG.build rfl | exact YG.neg rfl fV | exact YG.jz rfl rfl | exact YG.nO rfl B0 | exact YG.str rfl az) : A := s
theorem TP {A : Prop} (s : A := by first | exact fU | exact XU | exact fX | exact YG.fT 1 rfl rfl az az) : A := s
theorem lM {A:Prop} (s:A:=by repeat (first | exact di.n | (apply di.w;(· decide +kernel)) | (apply di.y;(· first | (apply YQ.t;(· exact rfl);(· exact rfl);(· exact XT)) | (apply YQ.t;(· exact rfl);(· apply rN;(· exact rfl);(· first | exact rfl | assumption));(· exact XT)) | (apply YQ.f;(· exact rfl);(· apply sy;(· exact rfl);(· first | exact rfl | assumption))))))):A:=s
theorem dv {A:Prop} (s:A:=by (try simp only [bR,bX,bq,dc,List.length_cons,List.length_nil,Nat.reduceAdd,fc,pb,cY]);rfl):A:=s
theorem ew {A:Prop} (s:A:=by (try simp only [List.cons_append,List.nil_append,oset,sk,bX,dc,bq,fS,List.map_cons,List.map_nil,Ob.fc,fc,pb,cY]);rfl):A:=s
theorem vZ {A:Prop} (s:A:=by simp only [bR,bX,bq,dc];rfl):A:=s
theorem vY {A:Prop} (s:A:=by first | exact n9.refl | (repeat (first | exact n9.nil | exact pU.refl | exact pU.nil | exact pU.U | exact pU.fn0 | refine n9.cons ?_ ?_ | refine pU.agg ?_))):A:=s
theorem nj {A:Prop} (s:A:=by first | exact trivial | exact ⟨rfl,trivial⟩ | exact ⟨rfl,rfl,trivial⟩ | exact ⟨rfl,rfl,rfl,trivial⟩ | exact ⟨rfl,rfl,rfl,rfl,rfl,trivial⟩):A:=s
theorem D {A B:Prop} (h:B) (s:Hid B->A:=by intro hQ;(repeat (first | ((first | (apply GL.q;(· exact Qb)) | refine GL.nil ?_ | refine bc ?_ | refine GW.seq ?_ | refine GW.region ?_ | refine GW.skip ?_ | refine jl ?_ | refine GW.block ?_ | (apply GL.gt;(· exact rfl);(· first | exact rfl | assumption)) | (apply GL.gf;(· exact rfl);(· first | exact rfl | assumption)) | (apply GL.gu;(· exact rfl)) | (apply Qo;(· exact rfl);(· first | exact rfl | assumption)) | (apply Qn;(· exact rfl);(· first | exact rfl | assumption)));try refine GN vZ ?_) | ((first | (apply GL.alloc;(· simp only [rK,Value.cells,List.map_cons,List.map_nil];rfl)) | (apply GL.box;(· exact rfl)) | (apply GL.st;(· exact rfl);(· exact rfl);(· exact rfl);(· exact rfl);(· exact rfl);(· exact rfl)));refine ub dv ew ?_)));exact hQ.1):A:=s ⟨h⟩
theorem aj {A B:Prop} (h:B) (s:Hid B->A:=by intro hQ;(repeat ((first | (apply OPm;(· exact rfl)) | (apply OPa;(· exact rfl)) | (apply OP;(· exact rfl);(· intro Γ;(first | exact Fp | exact fK | exact fJ | exact gQ | exact fa | exact Lu | exact YG.ext rfl rfl | exact YG.go rfl | exact Fq | exact YG.jC rfl rfl aJ | exact YG.idxSC rfl rfl aJ rfl | exact fq | exact YG.build rfl | exact YG.neg rfl fV | exact YG.jz rfl rfl | exact YG.nO rfl B0 | exact YG.str rfl az))) | (apply acR;(· exact rfl);(· exact rfl);(· first | exact rfl | assumption)) | (apply acQ;(· exact rfl);(· exact rfl);(· first | exact rfl | assumption)) | (apply acS;(· exact rfl);(· exact rfl);(· first | exact rfl | assumption)) | (apply OQ;(· exact rfl);(· exact TP)) | (apply OPt;(· exact rfl);(· exact rfl);(· first | exact rfl | assumption);(· intro Γ;(first | exact YG.mv | exact YG.mG | exact Fp | exact fK | exact fJ | exact gQ | exact fa | exact fp | exact Lu | exact YG.ext rfl rfl | exact YG.go rfl | exact Fq | exact YG.jC rfl rfl aJ | exact YG.idxSC rfl rfl aJ rfl | exact fq | exact YG.build rfl | exact YG.neg rfl fV | exact YG.jz rfl rfl | exact YG.nO rfl B0 | exact YG.str rfl az))) | (apply ZJ;(· exact rfl);(· exact rfl);(· first | exact rfl | assumption);(· exact TP)) | (apply ONf;(· exact rfl);(· exact rfl);(· first | exact rfl | assumption)) | (apply ONu;(· exact rfl);(· exact rfl)) | (apply OAf;(· exact rfl);(· exact rfl);(· first | exact rfl | assumption);(· exact lM)) | (apply OAu;(· exact rfl);(· exact rfl);(· exact lM)) | refine GO.nil ?_ | (apply OA;(· exact rfl);(· exact rfl);apply GL.alloc;(· simp only [rK,Value.cells,List.map_cons,List.map_nil];rfl);refine GL.nil (bc (dW.mk lM ?_));refine lF dv ew ?_) | (apply OA;(· exact rfl);(· exact rfl);apply GL.st;(· exact rfl);(· exact rfl);(· exact rfl);(· exact rfl);(· exact rfl);(· exact rfl);refine GL.nil (bc (dW.mk lM ?_));refine lF dv ew ?_) | (apply OA;(· exact rfl);(· exact rfl);apply GL.box;(· exact rfl);refine GL.nil (bc (dW.mk lM ?_));refine lF dv ew ?_));try refine GON vZ ?_));exact hQ.1):A:=s ⟨h⟩
theorem ji {A B:Prop} (h:B) (s:Hid B->A:=by intro hQ;(repeat (first | ((first | (apply GL.q;(· (first | exact YG.mv | exact YG.mG | exact Fp | exact TQ | exact TO | exact gQ | exact fa | exact fp | exact XV | exact YG.ext rfl rfl | exact YG.go rfl | exact Fq | exact YG.jC rfl rfl aJ | exact YG.idxSC rfl rfl aJ rfl | fail | exact YG.build rfl | exact YG.neg rfl fV | exact YG.jz rfl rfl | exact YG.nO rfl B0 | exact YG.str rfl az))) | refine GL.nil ?_ | refine bc ?_ | refine GW.seq ?_ | refine GW.region ?_ | refine GW.skip ?_ | refine jl ?_ | refine GW.block ?_ | (apply GL.gt;(· exact rfl);(· first | exact rfl | assumption)) | (apply GL.gf;(· exact rfl);(· first | exact rfl | assumption)) | (apply GL.gu;(· exact rfl)) | (apply Qo;(· exact rfl);(· first | exact rfl | assumption)) | (apply Qn;(· exact rfl);(· first | exact rfl | assumption)));try refine GN vZ ?_) | ((first | (apply GL.alloc;(· simp only [rK,Value.cells,List.map_cons,List.map_nil];rfl)) | (apply GL.box;(· exact rfl)) | (apply GL.st;(· exact rfl);(· exact rfl);(· exact rfl);(· exact rfl);(· exact rfl);(· exact rfl)));refine ub dv ew ?_)));exact hQ.1):A:=s ⟨h⟩
theorem Oh {A B:Prop} (h:B) (s:Hid B->A:=by intro hQ;(repeat (first | ((first | (apply GL.q;(· exact Qb)) | refine GL.nil ?_ | refine bc ?_ | refine GW.seq ?_ | refine GW.region ?_ | refine GW.skip ?_ | refine jl ?_ | (apply GL.gt;(· exact rfl);(· first | exact rfl | assumption)) | (apply GL.gf;(· exact rfl);(· first | exact rfl | assumption)) | (apply GL.gu;(· exact rfl)) | (apply Qo;(· exact rfl);(· first | exact rfl | assumption)) | (apply Qn;(· exact rfl);(· first | exact rfl | assumption)));try refine GN vZ ?_) | ((first | (apply GL.alloc;(· simp only [rK,Value.cells,List.map_cons,List.map_nil];rfl)) | (apply GL.box;(· exact rfl)) | (apply GL.st;(· exact rfl);(· exact rfl);(· exact rfl);(· exact rfl);(· exact rfl);(· exact rfl)));refine ub dv ew ?_)));exact hQ.1):A:=s ⟨h⟩
theorem ct {A B:Prop} (h:B) (s:Hid B->A:=by intro hQ;(try refine GN vZ ?_);exact hQ.1):A:=s ⟨h⟩
theorem l7 {A B:Prop} (h:B) (s:Hid B->A:=by intro hQ;(try refine GON vZ ?_);exact hQ.1):A:=s ⟨h⟩
theorem cm {A B:Prop} (h:B) (s:Hid B->A:=by intro hQ;(refine ub dv ew ?_);exact hQ.1):A:=s ⟨h⟩
theorem TN {A B:Prop} (h:B) (s:Hid B->A:=by intro hQ;(refine lF dv ew ?_);exact hQ.1):A:=s ⟨h⟩
theorem kB {A B:Prop} (h:B) (s:Hid B->A:=by intro hQ;((repeat (first | refine GW.exit ?_ | refine JF ?_ | refine MX ?_ | refine ginb_xn rfl ?_ | refine jl ?_ | refine bc ?_)));exact hQ.1):A:=s ⟨h⟩
theorem bY {A B:Prop} (h:B) (s:Hid B->A:=by intro hQ;((repeat (first | refine GW.ret ?_ | refine mr ?_ | refine mq ?_ | refine bc ?_ | refine jl ?_));refine la rfl cB rfl (Nat.le_refl _) rfl rfl ?_);exact hQ.1):A:=s ⟨h⟩
theorem c8 {A B:Prop} (h:B) (s:Hid B->A:=by intro hQ;((repeat (first | refine GW.ret ?_ | refine mr ?_ | refine mq ?_ | refine bc ?_ | refine jl ?_));refine aai rfl cB (Nat.le_refl _) rfl ?_);exact hQ.1):A:=s ⟨h⟩
theorem CF {A B:Prop} (h:B) (s:Hid B->A:=by intro hQ;((repeat (first | refine GW.ret ?_ | refine mr ?_ | refine mq ?_ | refine bc ?_ | refine jl ?_));refine aaj rfl cB rfl rfl (Nat.le_refl _) rfl rfl ?_);exact hQ.1):A:=s ⟨h⟩
theorem Gv {A B:Prop} (h:B) (s:Hid B->A:=by intro hQ;((repeat (first | refine GW.ret ?_ | refine mr ?_ | refine mq ?_ | refine bc ?_ | refine jl ?_));refine aak rfl cB rfl rfl rfl (Nat.le_refl _) rfl rfl ?_);exact hQ.1):A:=s ⟨h⟩
theorem ow {A B:Prop} (h:B) (s:Hid B->A:=by intro hQ;((repeat (first | refine GW.ret ?_ | refine mr ?_ | refine mq ?_ | refine bc ?_ | refine jl ?_));refine A8 ?_;refine aak rfl cB rfl rfl rfl (Nat.le_refl _) rfl rfl ?_);exact hQ.1):A:=s ⟨h⟩
theorem Ls {A B:Prop} (h:B) (s:Hid B->A:=by intro hQ;((repeat (first | refine GW.ret ?_ | refine mr ?_ | refine mq ?_ | refine bc ?_ | refine jl ?_));refine A8 ?_;refine aaj rfl cB rfl rfl (Nat.le_refl _) rfl rfl ?_);exact hQ.1):A:=s ⟨h⟩
theorem uU {A B:Prop} (h:B) (s:Hid B->A:=by intro hQ;((repeat (first | refine GW.ret ?_ | refine mr ?_ | refine mq ?_ | refine bc ?_ | refine jl ?_));refine A8 ?_;refine aal rfl cB rfl rfl rfl (Nat.le_refl _) rfl rfl ?_);exact hQ.1):A:=s ⟨h⟩
theorem ZB {A B:Prop} (h:B) (s:Hid B->A:=by intro hQ;((repeat (first | refine GW.ret ?_ | refine mr ?_ | refine mq ?_ | refine bc ?_ | refine jl ?_));refine A8 ?_;refine la rfl cB rfl (Nat.le_refl _) rfl rfl ?_);exact hQ.1):A:=s ⟨h⟩
theorem lp {A B:Prop} (h:B) (s:Hid B->A:=by intro hQ;((repeat (first | refine GW.ret ?_ | refine mr ?_ | refine mq ?_ | refine bc ?_ | refine jl ?_));refine abS rfl cB rfl rfl rfl rfl (Nat.le_refl _) rfl rfl ?_);exact hQ.1):A:=s ⟨h⟩
theorem pC {A B:Prop} (h:B) (s:Hid B->A:=by intro hQ;((repeat (first | refine GW.ret ?_ | refine mr ?_ | refine mq ?_ | refine bc ?_ | refine jl ?_));refine RG rfl cB rfl rfl rfl rfl rfl (Nat.le_refl _) rfl rfl ?_);exact hQ.1):A:=s ⟨h⟩
theorem Fo {A B:Prop} (h:B) (s:Hid B->A:=by intro hQ;((repeat (first | refine GW.ret ?_ | refine mr ?_ | refine mq ?_ | refine bc ?_ | refine jl ?_));refine A8 ?_;refine RG rfl cB rfl rfl rfl rfl rfl (Nat.le_refl _) rfl rfl ?_);exact hQ.1):A:=s ⟨h⟩
theorem gY {A B:Prop} (h:B) (s:Hid B->A:=by intro hQ;((repeat (first | refine GW.ret ?_ | refine mr ?_ | refine mq ?_ | refine bc ?_ | refine jl ?_));refine aal rfl cB rfl rfl rfl (Nat.le_refl _) rfl rfl ?_);exact hQ.1):A:=s ⟨h⟩
theorem b8 {A B:Prop} (h:B) (s:Hid B->A:=by intro hQ;(refine GL.mkF rfl rfl rfl rfl ?_;refine ub dv ew ?_);exact hQ.1):A:=s ⟨h⟩
theorem lL {A B:Prop} (h:B) (s:Hid B->A:=by intro hQ;(refine GL.S3 rfl rfl rfl rfl ?_;refine ub dv ew ?_);exact hQ.1):A:=s ⟨h⟩
theorem eS {A B:Prop} (h:B) (s:Hid B->A:=by intro hQ;(refine GL.push rfl rfl rfl rfl rfl rfl rfl rfl az ⟨⟨by omega,by omega⟩,by decide⟩ ?_;refine ub dv ew ?_);exact hQ.1):A:=s ⟨h⟩
theorem wv {A B:Prop} (h:B) (s:Hid B->A:=by intro hQ;(refine OA rfl rfl (GL.S3 rfl rfl rfl rfl (GL.nil (bc (dW.mk lM ?_))));refine lF dv ew ?_);exact hQ.1):A:=s ⟨h⟩
theorem wu {A B:Prop} (h:B) (s:Hid B->A:=by intro hQ;(refine OA rfl rfl (GL.app rfl rfl rfl az rfl rfl (by refine ⟨?_,?_⟩;(· show _+1<=_;omega);(· show (_+1) * _<=_;omega)) (GL.nil (bc (dW.mk lM ?_))));refine lF dv ew ?_);exact hQ.1):A:=s ⟨h⟩
theorem db {A B:Prop} (h:B) (s:Hid B->A:=by intro hQ;(refine OA rfl rfl (GL.mkF rfl rfl rfl rfl (GL.nil (bc (dW.mk lM ?_))));refine lF dv ew ?_);exact hQ.1):A:=s ⟨h⟩
theorem Lr {A B:Prop} (h:B) (s:Hid B->A:=by intro hQ;(refine OA rfl rfl (GL.st rfl rfl rfl rfl rfl rfl (GL.nil (bc (dW.mk lM ?_))));refine lF dv ew ?_);exact hQ.1):A:=s ⟨h⟩
theorem Qa {A B:Prop} (h:B) (s:Hid B->A:=by intro hQ;(refine OA rfl rfl (GL.TI 1 (by kernel_rfl) (by kernel_rfl) rfl rfl rfl rfl aJ fV (GL.nil (bc (dW.mk lM ?_))));refine lF dv ew ?_);exact hQ.1):A:=s ⟨h⟩
theorem Lt {A B:Prop} (h:B) (s:Hid B->A:=by intro hQ;(refine GL.Dg rfl rfl rfl az rfl rfl rfl rfl ?_;refine ub dv ew ?_);exact hQ.1):A:=s ⟨h⟩
theorem bF {A B:Prop} (h:B) (s:Hid B->A:=by intro hQ;(refine ⟨by simp,?_⟩;refine ub dv ew ?_);exact hQ.1):A:=s ⟨h⟩
theorem cy {A B:Prop} (h:B) (s:Hid B->A:=by intro hQ;(refine GL.nil (bc (dW.mk lM ?_));refine lF dv ew ?_);exact hQ.1):A:=s ⟨h⟩
theorem rE {A:Prop} (s:A:=by simp only [ba,wa];rfl):A:=s
theorem jw {A:Prop} (s:A:=by first | exact n9.refl | exact pU.refl | (repeat (first | exact n9.nil | exact pU.refl | exact pU.nil | exact pU.U | exact pU.fn0 | refine n9.cons ?_ ?_ | refine pU.agg ?_ | refine pU.tup ?_))):A:=s
theorem ao {A:Prop} (s:A:=by repeat (first | exact wC.nil | refine wC.U ?_ | refine wC.eq rfl ?_)):A:=s
theorem kA {A B C:Prop} (aY:List Nat) (c:C) (h:B) (s:wy aY C->Hid B->A:=by intro hC hQ;(refine GL.yA hC vY rfl nj rfl ?_;refine ub dv ew ?_);exact hQ.1):A:=s ⟨c⟩ ⟨h⟩
theorem V {A B C:Prop} (aY:List Nat) (c:C) (h:B) (s:wy aY C->Hid B->A:=by intro hC hQ;(refine GL.yA hC vY rfl nj rfl ?_;refine ub dv ew ?_);refine D ?_;exact hQ.1):A:=s ⟨c⟩ ⟨h⟩
theorem ou {A B C:Prop} (aY:List Nat) (c:C) (h:B) (s:wy aY C->Hid B->A:=by intro hC hQ;(refine OA rfl rfl (GL.yA hC vY rfl nj rfl (GL.nil (bc (dW.mk lM ?_))));refine lF dv ew ?_);exact hQ.1):A:=s ⟨c⟩ ⟨h⟩
theorem aC {A B C:Prop} (aY:List Nat) (c:C) (h:B) (s:wy aY C->Hid B->A:=by intro hC hQ;(refine OA rfl rfl (GL.yA hC vY rfl nj rfl (GL.nil (bc (dW.mk lM ?_))));refine lF dv ew ?_);refine aj ?_;exact hQ.1):A:=s ⟨c⟩ ⟨h⟩
theorem acP {A B C:Prop} (aY:List Nat) (c:C) (h:B) (s:wy aY C->Hid B->A:=by intro hC hQ;(refine Qs rfl rfl rfl (by first | exact rfl | assumption) (GL.yA hC vY rfl nj rfl (GL.nil (bc (dW.mk lM ?_))));refine lF dv ew ?_);exact hQ.1):A:=s ⟨c⟩ ⟨h⟩
theorem bZ {A B C:Prop} (aY:List Nat) (c:C) (h:B) (s:wy aY C->Hid B->A:=by intro hC hQ;(refine Qs rfl rfl rfl (by first | exact rfl | assumption) (GL.yA hC vY rfl nj rfl (GL.nil (bc (dW.mk lM ?_))));refine lF dv ew ?_);refine aj ?_;exact hQ.1):A:=s ⟨c⟩ ⟨h⟩
theorem ln {A B C:Prop} (aY:List Nat) (c:C) (h:B) (s:wy aY C->Hid B->A:=by intro hC hQ;(refine GL.QI hC rfl rfl rfl nj ?_;rintro _ _ ⟨rfl,rfl⟩;refine ⟨by simp,?_⟩;refine ub dv ew ?_);exact hQ.1):A:=s ⟨c⟩ ⟨h⟩
theorem ot {A B C:Prop} (aY:List Nat) (c:C) (h:B) (s:wy aY C->Hid B->A:=by intro hC hQ;(refine GL.QJ hC rfl rfl rfl nj ?_;rintro _ _ ⟨rfl,rfl⟩;refine ⟨by simp,?_⟩;refine ub dv ew ?_);exact hQ.1):A:=s ⟨c⟩ ⟨h⟩
theorem BZ {A B C:Prop} (aY:List Nat) (c:C) (h:B) (s:wy aY C->Hid B->A:=by intro hC hQ;(refine OA rfl rfl (GL.QI hC rfl rfl rfl nj ?_);rintro _ _ ⟨rfl,rfl⟩;refine ⟨by simp,(GL.nil (bc (dW.mk lM ?_)))⟩;refine lF dv ew ?_);exact hQ.1):A:=s ⟨c⟩ ⟨h⟩
theorem rl {A B C:Prop} (aY:List Nat) (c:C) (h:B) (s:wy aY C->Hid B->A:=by intro hC hQ;(refine OA rfl rfl (GL.QJ hC rfl rfl rfl nj ?_);rintro _ _ ⟨rfl,rfl⟩;refine ⟨by simp,(GL.nil (bc (dW.mk lM ?_)))⟩;refine lF dv ew ?_);exact hQ.1):A:=s ⟨c⟩ ⟨h⟩
theorem bA {A B C:Prop} (aY:List Nat) (c:C) (h:B) (s:wy aY C->Hid B->A:=by intro hC hQ;(refine GL.ZW hC vY rfl nj ?_);exact hQ.1):A:=s ⟨c⟩ ⟨h⟩
theorem dh {A B C aeH : Prop} (f : C) (n : aeH) (h : B) (s : C -> aeH -> Hid B -> A := by intro hC hD hQ;refine GC.enter hC hD rfl (by simp only [A9,JC,Nat.reduceSub];rfl) ?_;exact hQ.1) : A := s f n ⟨h⟩
theorem ai {A B C aeH : Prop} (f : C) (n : aeH) (h : B) (s : C -> aeH -> Hid B -> A := by intro hC hD hQ;refine GC.enter hC hD rfl (by simp only [A9,JC,Nat.reduceSub];rfl) ?_;refine D ?_;exact hQ.1) : A := s f n ⟨h⟩
theorem al {A : Prop} (s : A := by refine bY ?_;exact ⟨rfl,rfl⟩) : A := s
theorem ay {A : Prop} (s : A := by refine D ?_;refine bY ?_;exact ⟨rfl,rfl⟩) : A := s
theorem iy {A : Prop} (s : A := by refine c8 ?_;exact ⟨rfl,rfl⟩) : A := s
theorem gh {A : Prop} (s : A := by refine D ?_;refine c8 ?_;exact ⟨rfl,rfl⟩) : A := s
theorem mn {A : Prop} (s : A := by refine CF ?_;exact ⟨rfl,rfl⟩) : A := s
theorem sH {A : Prop} (s : A := by refine D ?_;refine CF ?_;exact ⟨rfl,rfl⟩) : A := s
theorem gi {A : Prop} (s : A := by refine gY ?_;exact ⟨rfl,rfl⟩) : A := s
theorem ni {A : Prop} (s : A := by refine D ?_;refine gY ?_;exact ⟨rfl,rfl⟩) : A := s
theorem ak {A : Prop} (s : A := by kernel_rfl) : A := s
theorem X {A : Prop} (s : A := by omega) : A := s
theorem gL {A B : Prop} (h : B) (s : Hid B -> A := by intro hQ;(repeat (first | refine GW.ret ?_ | refine mr ?_ | refine mq ?_ | refine bc ?_ | refine jl ?_));exact hQ.1) : A := s ⟨h⟩
theorem aeF {A : Prop} (s : A := by first | rfl | assumption) : A := s
theorem jn {A : Prop} (s : A := by rintro k _ _ ⟨rfl,rfl,_⟩;exact ⟨rfl,rfl,rfl⟩) : A := s
theorem jo {A : Prop} (s : A := by exact ⟨_,_,Wk.aH ao,rfl,rfl⟩) : A := s
theorem lN {A : Prop} (s : A := by exact ⟨_,_,Wk.aH ao,rfl,rfl,rfl⟩) : A := s
theorem jx {A : Prop} (s : A := by refine D ?_;exact ⟨_,_,Wk.aH ao,rfl,rfl⟩) : A := s
theorem dr {A : Prop} (s : A := by exact ⟨rfl,rfl,rfl⟩) : A := s
theorem bm {A B : Prop} (h : B) (s : Hid B -> A := by intro hQ;refine aj ?_;refine D ?_;exact hQ.1) : A := s ⟨h⟩
theorem eE {A B : Prop} (h : B) (s : Hid B -> A := by intro hQ;refine D ?_;refine kB ?_;exact hQ.1) : A := s ⟨h⟩
theorem jm {A : Prop} (s : A := by exact ⟨⟨by omega,by omega⟩,by decide⟩) : A := s
theorem aD {A : Prop} (s : A := by decide) : A := s
def ax:Nat->Nat->Ot->Ot
 | _,0,r=>r
 | s,n+1,r=>.q s (ax (s+1) n r)
def adX:List Nat->Ot->Ot
 | [],r=>r
 | i::l,r=>.q i (adX l r)
theorem aM {P:Program} {m id:Nat} {ol:List Oper} {Q:eC} {fr:List GV} {Γ:List Ob} (ord:Ot) (h:GO P ol.toArray (Q .normal) ord [] fr Γ) (hm:P.follows .mixedOrders=true:=by kernel_rfl) (fA:(Region.noSelect ol.toArray&&(ord.len==ol.length)&&xe ol.toArray ord (Array.replicate ol.toArray.size false))=true:=by kernel_rfl):GW P m (.region id ol.toArray true) Q fr Γ:=GW.draw ord hm fA h
end Go.Xg
namespace Go.Xw
open Go.Proofs Tryz
open Go.Xg (ak)
instance:aO prog 9:=⟨ak⟩
instance:aO prog 10:=⟨ak⟩
instance:aO prog 11:=⟨ak⟩
instance:aO prog 12:=⟨ak⟩
instance:aO prog 13:=⟨ak⟩
instance:aO prog 14:=⟨ak⟩
instance:aO prog 15:=⟨ak⟩
instance:aO prog 16:=⟨ak⟩
instance:aO prog 17:=⟨ak⟩
instance:aO prog 18:=⟨ak⟩
instance:aO prog 19:=⟨ak⟩
instance:aO prog 20:=⟨ak⟩
instance:aO prog 21:=⟨ak⟩
instance:aO prog 22:=⟨ak⟩
instance:aO prog 23:=⟨ak⟩
instance:aO prog 24:=⟨ak⟩
instance:aO prog 25:=⟨ak⟩
instance:aO prog 26:=⟨ak⟩
instance:aO prog 40:=⟨ak⟩
instance:aO prog 41:=⟨ak⟩
instance:aO prog 42:=⟨ak⟩
instance:aO prog 43:=⟨ak⟩
instance:aO prog 44:=⟨ak⟩
instance:aO prog 45:=⟨ak⟩
instance:aO prog 46:=⟨ak⟩
instance:aO prog 47:=⟨ak⟩
instance:aO prog 48:=⟨ak⟩
instance:aO prog 49:=⟨ak⟩
instance:aO prog 50:=⟨ak⟩
instance:aO prog 51:=⟨ak⟩
instance:aO prog 52:=⟨ak⟩
instance:aO prog 53:=⟨ak⟩
instance:aO prog 54:=⟨ak⟩
instance:aO prog 55:=⟨ak⟩
instance:aO prog 56:=⟨ak⟩
instance:aO prog 57:=⟨ak⟩
instance:aO prog 58:=⟨ak⟩
instance:aO prog 59:=⟨ak⟩
instance:aO prog 60:=⟨ak⟩
instance:aO prog 61:=⟨ak⟩
instance:aO prog 62:=⟨ak⟩
instance:aO prog 63:=⟨ak⟩
instance:aO prog 64:=⟨ak⟩
instance:aO prog 65:=⟨ak⟩
instance:aO prog 66:=⟨ak⟩
instance:aO prog 67:=⟨ak⟩
instance:aO prog 68:=⟨ak⟩
instance:aO prog 70:=⟨ak⟩
instance:aO prog 73:=⟨ak⟩
instance:aO prog 76:=⟨ak⟩
instance:aO prog 77:=⟨ak⟩
instance:aO prog 78:=⟨ak⟩
instance:aO prog 79:=⟨ak⟩
instance:aO prog 80:=⟨ak⟩
instance:aO prog 81:=⟨ak⟩
instance:aO prog 82:=⟨ak⟩
instance:aO prog 83:=⟨ak⟩
instance:aO prog 84:=⟨ak⟩
instance:aO prog 86:=⟨ak⟩
instance:aO prog 87:=⟨ak⟩
instance:aO prog 88:=⟨ak⟩
instance:aO prog 90:=⟨ak⟩
instance:aO prog 95:=⟨ak⟩
instance:aO prog 96:=⟨ak⟩
instance:aO prog 97:=⟨ak⟩
instance:aO prog 98:=⟨ak⟩
instance:aO prog 99:=⟨ak⟩
instance:aO prog 100:=⟨ak⟩
instance:aO prog 101:=⟨ak⟩
instance:aO prog 102:=⟨ak⟩
instance:aO prog 103:=⟨ak⟩
instance:aO prog 104:=⟨ak⟩
instance:aO prog 105:=⟨ak⟩
instance:aO prog 106:=⟨ak⟩
instance:aO prog 107:=⟨ak⟩
instance:aO prog 108:=⟨ak⟩
instance:aO prog 109:=⟨ak⟩
instance:aO prog 110:=⟨ak⟩
instance:aO prog 111:=⟨ak⟩
instance:aO prog 112:=⟨ak⟩
instance:aO prog 113:=⟨ak⟩
instance:aO prog 114:=⟨ak⟩
instance:aO prog 115:=⟨ak⟩
instance:aO prog 116:=⟨ak⟩
instance:aO prog 117:=⟨ak⟩
instance:aO prog 118:=⟨ak⟩
instance:aO prog 119:=⟨ak⟩
instance:aO prog 120:=⟨ak⟩
instance:aO prog 121:=⟨ak⟩
instance:aO prog 122:=⟨ak⟩
instance:aO prog 123:=⟨ak⟩
instance:aO prog 124:=⟨ak⟩
instance:aO prog 125:=⟨ak⟩
instance:aO prog 126:=⟨ak⟩
instance:aO prog 127:=⟨ak⟩
instance:aO prog 128:=⟨ak⟩
instance:aO prog 129:=⟨ak⟩
instance:aO prog 130:=⟨ak⟩
instance:aO prog 131:=⟨ak⟩
instance:aO prog 133:=⟨ak⟩
instance:aO prog 134:=⟨ak⟩
instance:aO prog 135:=⟨ak⟩
instance:aO prog 136:=⟨ak⟩
instance:aO prog 137:=⟨ak⟩
instance:aO prog 138:=⟨ak⟩
instance:aO prog 139:=⟨ak⟩
instance:aO prog 140:=⟨ak⟩
instance:aO prog 141:=⟨ak⟩
instance:aO prog 142:=⟨ak⟩
instance:aO prog 143:=⟨ak⟩
instance:aO prog 144:=⟨ak⟩
instance:aO prog 145:=⟨ak⟩
instance:aO prog 146:=⟨ak⟩
instance:aO prog 147:=⟨ak⟩
instance:aO prog 148:=⟨ak⟩
instance:aO prog 150:=⟨ak⟩
instance:aO prog 151:=⟨ak⟩
instance:aO prog 156:=⟨ak⟩
instance:aO prog 158:=⟨ak⟩
instance:aO prog 159:=⟨ak⟩
instance:aO prog 160:=⟨ak⟩
instance:aO prog 161:=⟨ak⟩
instance:aO prog 162:=⟨ak⟩
instance:aO prog 163:=⟨ak⟩
instance:aO prog 164:=⟨ak⟩
instance:aO prog 165:=⟨ak⟩
instance:aO prog 166:=⟨ak⟩
instance:aO prog 167:=⟨ak⟩
instance:aO prog 168:=⟨ak⟩
instance:aO prog 169:=⟨ak⟩
instance:aO prog 172:=⟨ak⟩
instance:aO prog 173:=⟨ak⟩
instance:aO prog 174:=⟨ak⟩
instance:aO prog 175:=⟨ak⟩
instance:aO prog 176:=⟨ak⟩
instance:aO prog 177:=⟨ak⟩
instance:aO prog 178:=⟨ak⟩
instance:aO prog 179:=⟨ak⟩
instance:aO prog 180:=⟨ak⟩
instance:aO prog 181:=⟨ak⟩
instance:aO prog 182:=⟨ak⟩
instance:aO prog 183:=⟨ak⟩
instance:aO prog 184:=⟨ak⟩
instance:aO prog 185:=⟨ak⟩
instance:aO prog 186:=⟨ak⟩
instance:aO prog 188:=⟨ak⟩
instance:aO prog 189:=⟨ak⟩
instance:aO prog 190:=⟨ak⟩
instance:aO prog 191:=⟨ak⟩
instance:aO prog 192:=⟨ak⟩
instance:aO prog 193:=⟨ak⟩
instance:aO prog 194:=⟨ak⟩
instance:aO prog 195:=⟨ak⟩
instance:aO prog 196:=⟨ak⟩
instance:aO prog 197:=⟨ak⟩
instance:aO prog 198:=⟨ak⟩
instance:aO prog 199:=⟨ak⟩
instance:aO prog 200:=⟨ak⟩
instance:aO prog 201:=⟨ak⟩
instance:aO prog 202:=⟨ak⟩
instance:aO prog 203:=⟨ak⟩
instance:aO prog 204:=⟨ak⟩
instance:aO prog 205:=⟨ak⟩
instance:aO prog 206:=⟨ak⟩
instance:aO prog 207:=⟨ak⟩
instance:aO prog 208:=⟨ak⟩
instance:aO prog 211:=⟨ak⟩
instance:aO prog 213:=⟨ak⟩
instance:aO prog 214:=⟨ak⟩
instance:aO prog 215:=⟨ak⟩
instance:aO prog 216:=⟨ak⟩
instance:aO prog 217:=⟨ak⟩
instance:aO prog 218:=⟨ak⟩
instance:aO prog 219:=⟨ak⟩
instance:aO prog 231:=⟨ak⟩
instance:aO prog 232:=⟨ak⟩
instance:aO prog 233:=⟨ak⟩
instance:aO prog 234:=⟨ak⟩
instance:aO prog 236:=⟨ak⟩
instance:aO prog 237:=⟨ak⟩
instance:aO prog 238:=⟨ak⟩
instance:aO prog 239:=⟨ak⟩
instance:aO prog 240:=⟨ak⟩
instance:aO prog 241:=⟨ak⟩
instance:aO prog 242:=⟨ak⟩
instance:aO prog 243:=⟨ak⟩
instance:aO prog 244:=⟨ak⟩
instance:aO prog 245:=⟨ak⟩
instance:aO prog 246:=⟨ak⟩
instance:aO prog 247:=⟨ak⟩
instance:aO prog 249:=⟨ak⟩
instance:aO prog 250:=⟨ak⟩
instance:aO prog 251:=⟨ak⟩
instance:aO prog 252:=⟨ak⟩
instance:aO prog 253:=⟨ak⟩
instance:aO prog 254:=⟨ak⟩
instance:aO prog 255:=⟨ak⟩
instance:aO prog 256:=⟨ak⟩
instance:aO prog 257:=⟨ak⟩
instance:aO prog 258:=⟨ak⟩
instance:aO prog 259:=⟨ak⟩
instance:aO prog 260:=⟨ak⟩
instance:aO prog 262:=⟨ak⟩
instance:aO prog 268:=⟨ak⟩
instance:aO prog 269:=⟨ak⟩
instance:aO prog 270:=⟨ak⟩
instance:aO prog 271:=⟨ak⟩
instance:aO prog 272:=⟨ak⟩
instance:aO prog 273:=⟨ak⟩
instance:aO prog 281:=⟨ak⟩
instance:aO prog 286:=⟨ak⟩
instance:aO prog 287:=⟨ak⟩
instance:aO prog 288:=⟨ak⟩
instance:aO prog 289:=⟨ak⟩
instance:aO prog 290:=⟨ak⟩
instance:aO prog 291:=⟨ak⟩
instance:aO prog 292:=⟨ak⟩
instance:aO prog 297:=⟨ak⟩
instance:aO prog 302:=⟨ak⟩
instance:aO prog 303:=⟨ak⟩
instance:aO prog 308:=⟨ak⟩
instance:aO prog 309:=⟨ak⟩
instance:aO prog 311:=⟨ak⟩
instance:aO prog 312:=⟨ak⟩
instance:aO prog 315:=⟨ak⟩
instance:Ty prog 3 false 1:=⟨ak,ak⟩
instance:tz prog 3 (.int .i64 (0)):=⟨ak⟩
instance:Go.Xg.Ox prog 3 .i64:=⟨ak⟩
instance:Ty prog 5 false 1:=⟨ak,ak⟩
instance:Go.Xg.Ox prog 5 .u8:=⟨ak⟩
instance:Ty prog 9 false 1:=⟨ak,ak⟩
instance:tw prog 9:=⟨ak⟩
instance:Ty prog 22 false 1:=⟨ak,ak⟩
instance:Go.Xg.Qe prog 22:=Go.Xg.Qe.mk' (e:=5) (ak) (ak)
instance:pW prog 22 5 1:=⟨ak,ak⟩
instance:tu prog 22 5 1 [(.int .u8 (0))]:=⟨ak,ak,ak,rfl,by decide,fun _=>rfl⟩
instance:Ty prog 23 false 1:=⟨ak,ak⟩
instance:tz prog 23 (.slice none 0 0):=⟨ak⟩
instance:pW prog 23 9 1:=⟨ak,ak⟩
instance:rR prog 23 9 1 16:=⟨ak⟩
instance:tu prog 23 9 1 [(.string ⟨#[]⟩)]:=⟨ak,ak,ak,rfl,by decide,fun _=>rfl⟩
instance:Ty prog 24 false 1:=⟨ak,ak⟩
instance:pW prog 24 98 2:=⟨ak,ak⟩
instance:rR prog 24 98 2 24:=⟨ak⟩
instance:tu prog 24 98 2 [(.string ⟨#[]⟩),(.int .i64 (0))]:=⟨ak,ak,ak,rfl,by decide,fun h=>by cases h⟩
instance:Ty prog 25 false 1:=⟨ak,ak⟩
instance:pW prog 25 65 3:=⟨ak,ak⟩
instance:rR prog 25 65 3 48:=⟨ak⟩
instance:tu prog 25 65 3 [(.string ⟨#[]⟩),(.slice none 0 0),(.int .i64 (0))]:=⟨ak,ak,ak,rfl,by decide,fun h=>by cases h⟩
instance:Ty prog 26 false 1:=⟨ak,ak⟩
instance:pW prog 26 78 5:=⟨ak,ak⟩
instance:rR prog 26 78 5 64:=⟨ak⟩
instance:tu prog 26 78 5 [(.int .i64 (0)),(.int .i64 (0)),(.int .i64 (0)),(.string ⟨#[]⟩),(.slice none 0 0)]:=⟨ak,ak,ak,rfl,by decide,fun h=>by cases h⟩
instance:Ty prog 28 true 4:=⟨ak,ak⟩
instance:tz prog 28 (.agg #[(.slice none 0 0),(.slice none 0 0),(.slice none 0 0),(.slice none 0 0)]):=⟨ak⟩
instance:gq prog 28 0 0 1 false:=⟨ak⟩
instance:gq prog 28 1 1 1 false:=⟨ak⟩
instance:gq prog 28 2 2 1 false:=⟨ak⟩
instance:gq prog 28 3 3 1 false:=⟨ak⟩
instance:wA prog 28 [(0,1),(1,1),(2,1),(3,1)] [(.slice none 0 0),(.slice none 0 0),(.slice none 0 0),(.slice none 0 0)]:=⟨ak,ak⟩
instance:Ty prog 36 false 1:=⟨ak,ak⟩
instance:tz prog 36 (.slice none 0 0):=⟨ak⟩
instance:pW prog 36 3 1:=⟨ak,ak⟩
instance:rR prog 36 3 1 8:=⟨ak⟩
instance:tu prog 36 3 1 [(.int .i64 (0))]:=⟨ak,ak,ak,rfl,by decide,fun _=>rfl⟩
instance:pW prog 42 36 1:=⟨ak,ak⟩
instance:rR prog 42 36 1 24:=⟨ak⟩
instance:tu prog 42 36 1 [(.slice none 0 0)]:=⟨ak,ak,ak,rfl,by decide,fun _=>rfl⟩
instance:Ty prog 65 true 3:=⟨ak,ak⟩
instance:tz prog 65 (.agg #[(.string ⟨#[]⟩),(.slice none 0 0),(.int .i64 (0))]):=⟨ak⟩
instance:gq prog 65 0 0 1 false:=⟨ak⟩
instance:gq prog 65 1 1 1 false:=⟨ak⟩
instance:gq prog 65 2 2 1 false:=⟨ak⟩
instance:wA prog 65 [(0,1),(1,1),(2,1)] [(.string ⟨#[]⟩),(.slice none 0 0),(.int .i64 (0))]:=⟨ak,ak⟩
instance:Ty prog 78 true 5:=⟨ak,ak⟩
instance:tz prog 78 (.agg #[(.int .i64 (0)),(.int .i64 (0)),(.int .i64 (0)),(.string ⟨#[]⟩),(.slice none 0 0)]):=⟨ak⟩
instance:gq prog 78 0 0 1 false:=⟨ak⟩
instance:gq prog 78 1 1 1 false:=⟨ak⟩
instance:gq prog 78 2 2 1 false:=⟨ak⟩
instance:gq prog 78 3 3 1 false:=⟨ak⟩
instance:gq prog 78 4 4 1 false:=⟨ak⟩
instance:wA prog 78 [(0,1),(1,1),(2,1),(3,1),(4,1)] [(.int .i64 (0)),(.int .i64 (0)),(.int .i64 (0)),(.string ⟨#[]⟩),(.slice none 0 0)]:=⟨ak,ak⟩
instance:Ty prog 79 false 1:=⟨ak,ak⟩
instance:Ty prog 82 false 1:=⟨ak,ak⟩
instance:Ty prog 84 false 1:=⟨ak,ak⟩
instance:pW prog 84 86 6:=⟨ak,ak⟩
instance:rR prog 84 86 6 88:=⟨ak⟩
instance:tu prog 84 86 6 [(.int .i64 (0)),(.int .i64 (0)),(.int .i64 (0)),(.string ⟨#[]⟩),(.slice none 0 0),(.slice none 0 0)]:=⟨ak,ak,ak,rfl,by decide,fun h=>by cases h⟩
instance:Ty prog 86 true 6:=⟨ak,ak⟩
instance:tz prog 86 (.agg #[(.int .i64 (0)),(.int .i64 (0)),(.int .i64 (0)),(.string ⟨#[]⟩),(.slice none 0 0),(.slice none 0 0)]):=⟨ak⟩
instance:gq prog 86 0 0 5 true:=⟨ak⟩
instance:gq prog 86 1 5 1 false:=⟨ak⟩
instance:wA prog 86 [(0,5),(5,1)] [(.int .i64 (0)),(.int .i64 (0)),(.int .i64 (0)),(.string ⟨#[]⟩),(.slice none 0 0),(.slice none 0 0)]:=⟨ak,ak⟩
instance:Ty prog 88 false 1:=⟨ak,ak⟩
instance:pW prog 88 168 4:=⟨ak,ak⟩
instance:rR prog 88 168 4 40:=⟨ak⟩
instance:tu prog 88 168 4 [(.int .i64 (0)),(.int .i64 (0)),(.string ⟨#[]⟩),(.int .i64 (0))]:=⟨ak,ak,ak,rfl,by decide,fun h=>by cases h⟩
instance:Ty prog 92 false 1:=⟨ak,ak⟩
instance:pW prog 92 79 1:=⟨ak,ak⟩
instance:rR prog 92 79 1 8:=⟨ak⟩
instance:tu prog 92 79 1 [(.pointer none)]:=⟨ak,ak,ak,rfl,by decide,fun _=>rfl⟩
instance:Ty prog 96 false 1:=⟨ak,ak⟩
instance:Ty prog 98 true 2:=⟨ak,ak⟩
instance:tz prog 98 (.agg #[(.string ⟨#[]⟩),(.int .i64 (0))]):=⟨ak⟩
instance:gq prog 98 0 0 1 false:=⟨ak⟩
instance:gq prog 98 1 1 1 false:=⟨ak⟩
instance:wA prog 98 [(0,1),(1,1)] [(.string ⟨#[]⟩),(.int .i64 (0))]:=⟨ak,ak⟩
instance:gq prog 103 0 0 1 false:=⟨ak⟩
instance:gq prog 103 1 1 1 false:=⟨ak⟩
instance:gq prog 103 2 2 1 false:=⟨ak⟩
instance:wA prog 103 [(0,1),(1,1),(2,1)] [(.slice none 0 0),(.int .i64 (0)),(.int .i64 (0))]:=⟨ak,ak⟩
instance:Ty prog 106 false 1:=⟨ak,ak⟩
instance:gq prog 125 0 0 5 true:=⟨ak⟩
instance:gq prog 125 1 5 1 false:=⟨ak⟩
instance:wA prog 125 [(0,5),(5,1)] [(.int .i64 (0)),(.int .i64 (0)),(.int .i64 (0)),(.string ⟨#[]⟩),(.slice none 0 0),(.slice none 0 0)]:=⟨ak,ak⟩
instance:pW prog 131 23 1:=⟨ak,ak⟩
instance:tu prog 131 23 1 [(.slice none 0 0)]:=⟨ak,ak,ak,rfl,by decide,fun _=>rfl⟩
instance:gq prog 135 0 0 1 false:=⟨ak⟩
instance:gq prog 135 1 1 1 false:=⟨ak⟩
instance:gq prog 135 2 2 1 false:=⟨ak⟩
instance:gq prog 135 3 3 1 false:=⟨ak⟩
instance:gq prog 135 4 4 1 false:=⟨ak⟩
instance:gq prog 135 5 5 1 false:=⟨ak⟩
instance:gq prog 135 6 6 4 true:=⟨ak⟩
instance:wA prog 135 [(0,1),(1,1),(2,1),(3,1),(4,1),(5,1),(6,4)] [(.slice none 0 0),(.int .i64 (0)),(.int .i64 (0)),(.int .i64 (0)),(.int .i64 (0)),(.slice none 0 0),(.slice none 0 0),(.slice none 0 0),(.slice none 0 0),(.slice none 0 0)]:=⟨ak,ak⟩
instance:Ty prog 138 true 2:=⟨ak,ak⟩
instance:tz prog 138 (.agg #[.nilFunc,.nilFunc]):=⟨ak⟩
instance:gq prog 138 0 0 1 false:=⟨ak⟩
instance:gq prog 138 1 1 1 false:=⟨ak⟩
instance:wA prog 138 [(0,1),(1,1)] [.nilFunc,.nilFunc]:=⟨ak,ak⟩
instance:gq prog 145 0 0 1 false:=⟨ak⟩
instance:gq prog 145 1 1 1 false:=⟨ak⟩
instance:gq prog 145 2 2 1 false:=⟨ak⟩
instance:gq prog 145 3 3 1 false:=⟨ak⟩
instance:gq prog 145 4 4 1 false:=⟨ak⟩
instance:wA prog 145 [(0,1),(1,1),(2,1),(3,1),(4,1)] [(.slice none 0 0),(.int .i64 (0)),(.int .i64 (0)),(.int .i64 (0)),(.int .i64 (0))]:=⟨ak,ak⟩
instance:Ty prog 154 false 1:=⟨ak,ak⟩
instance:tz prog 154 .nilFunc:=⟨ak⟩
instance:gq prog 160 0 0 4 true:=⟨ak⟩
instance:gq prog 160 1 4 1 false:=⟨ak⟩
instance:gq prog 160 2 5 1 false:=⟨ak⟩
instance:gq prog 160 3 6 1 false:=⟨ak⟩
instance:wA prog 160 [(0,4),(4,1),(5,1),(6,1)] [(.slice none 0 0),(.slice none 0 0),(.slice none 0 0),(.slice none 0 0),(.slice none 0 0),(.int .i64 (0)),(.int .i64 (0))]:=⟨ak,ak⟩
instance:Ty prog 168 true 4:=⟨ak,ak⟩
instance:tz prog 168 (.agg #[(.int .i64 (0)),(.int .i64 (0)),(.string ⟨#[]⟩),(.int .i64 (0))]):=⟨ak⟩
instance:gq prog 168 0 0 1 false:=⟨ak⟩
instance:gq prog 168 1 1 1 false:=⟨ak⟩
instance:gq prog 168 2 2 1 false:=⟨ak⟩
instance:gq prog 168 3 3 1 false:=⟨ak⟩
instance:wA prog 168 [(0,1),(1,1),(2,1),(3,1)] [(.int .i64 (0)),(.int .i64 (0)),(.string ⟨#[]⟩),(.int .i64 (0))]:=⟨ak,ak⟩
instance:Ty prog 185 false 1:=⟨ak,ak⟩
instance:tz prog 187 (.agg #[(.pointer none),(.slice none 0 0)]):=⟨ak⟩
instance:gq prog 187 0 0 1 false:=⟨ak⟩
instance:gq prog 187 1 1 1 false:=⟨ak⟩
end Go.Xw
set_option maxHeartbeats 1000000
namespace Go.Xg
open Go.RowKit Go.Xw Go.Proofs Tryz Go.Sp
open Go.Xp (Tok dZ)
attribute [local irreducible] GW GL GO YG GC GA aU aW
def dm (t:Tok):List GV:=[.v (ii t.kind),.v (ii t.n),.v (sv t.s),.v (ii t.at_)]
theorem Ur (t:Tok):GF prog 215 [.agg (dm t)] [] (.v (sv (dZ t))) []:=by
 refine ai func215 ntmps215 ?_;refine GW.cond rfl (fun h=>?_) (fun h=>?_)
 ·refine zdh ?_
  have h:t.kind≠3:=by simpa using h
  rw [dZ,ab h];exact zah
 ·refine zdh ?_
  have h:t.kind=3:=by simpa using h
  rw [dZ,ah h];exact zah
abbrev iU (l:List Tok):GV:=.sl 4 (l.map dm)
abbrev bW (p:RS):Ob:=.box 145 [iU p.l,.v (ii p.i),.v (ii p.e),.v (ii p.code),.v (ii p.at_)]
theorem mN {l:List Tok} {i:Nat} {t:Tok} (h:l[i]?=some t):(l.map dm)[i]?=some (dm t):=by rw [bp,h];rfl
theorem lC (p:RS) (hp:p.ok):GF prog 163 [.loc 0 0] [bW p] (.v (ii p.place)) [bW p]:=by
 obtain ⟨mU,eY⟩:=hp
 cases ht:p.l[p.i]? with
 | some t =>
  have hr:=mN ht;have au:p.i < p.l.length:=(bB ht).1
  have hd:decide ((p.i:Int) < ((p.l.map dm).length:Int))=true:=by simpa using au
  refine ai func163 ntmps163 ?_;refine aM (ax 0 10 .nil) ?_;refine bm ?_;refine aM (ax 0 12 .nil) ?_;refine bm ?_;refine bY ?_;rw [RS.place,ht];exact zah
 | none =>
  have au:p.l.length<=p.i:=pS ht
  have hd:decide ((p.i:Int) < ((p.l.map dm).length:Int))=false:=by simpa using au
  refine ai func163 ntmps163 ?_;refine aM (ax 0 10 .nil) ?_;refine bm ?_;refine bY ?_;rw [RS.place,ht];exact zah
open GV (U)
theorem dw (p:RS) (k:Nat) (hp:p.ok) (hk:k<=1):GF prog 159 [.loc 0 0,.v (ii k)] [bW p] (.v (sv (p.sign k))) [bW p]:=by
 obtain ⟨mU,eY⟩:=hp
 by_cases hc:p.code=0
 ·have dP:(p.code != 0)=false:=by simpa using hc
  cases ht:p.l[p.i+k]? with
  | some t =>
   have hr:=mN ht;have au:p.i+k < p.l.length:=(bB ht).1
   have hd:decide (((p.l.map dm).length:Int)<=((p.i+k:Nat):Int))=false:=by simp;omega
   refine ai func159 ntmps159 ?_;refine aM (ax 0 19 .nil) ?_;refine bm ?_;refine aM (ax 0 12 (.a 12 (.q 13 .nil))) ?_;refine aj ?_;refine aC [] (Ur t) ?_;refine zdh ?_;rw [RS.sign,ah hc,ht];exact zah
  | none =>
   have au:p.l.length<=p.i+k:=pS ht
   have hd:decide (((p.l.map dm).length:Int)<=((p.i+k:Nat):Int))=true:=by simp;omega
   refine ai func159 ntmps159 ?_;refine aM (ax 0 19 .nil) ?_;refine bm ?_;refine bY ?_;rw [RS.sign,ah hc,ht];exact zah
 ·have dP:(p.code != 0)=true:=by simpa using hc
  refine ai func159 ntmps159 ?_;refine aM (ax 0 19 .nil) ?_;refine bm ?_;refine bY ?_;rw [RS.sign,ab hc];exact zah
theorem lJ (p:RS) (c a:Int):GF prog 162 [.loc 0 0,.v (ii c),.v (ii a)] [bW p] (.tup []) [bW (p.fail c a)]:=by
 refine ai func162 ntmps162 ?_;refine GW.cond rfl (fun h=>?_) (fun h=>?_)
 ·refine D ?_;refine c8 ?_
  have h:p.code=0:=by simpa using h
  rw [RS.fail,ah h];exact zah
 ·refine D ?_;refine c8 ?_
  have h:¬ p.code=0:=by simpa using h
  rw [RS.fail,ab h];exact zah
theorem c9 (p:RS) (s:ae) (hp:p.ok) (hs:s≠[]):GF prog 216 [.loc 0 0,.v (sv s)] [bW p] (.tup []) [bW (p.aR s)]:=by
 refine ai func216 ntmps216 ?_;refine kA [0] (dw p 0 hp aD) ?_
 by_cases h:p.sign 0=s
 ·have h':(!(p.sign 0==s))=false:=by simp [h]
  have hl:=(dH h hs).1;obtain ⟨mU,eY⟩:=hp;refine D ?_;refine c8 ?_;rw [RS.aR,ah h];exact zah
 ·have h':(!(p.sign 0==s))=true:=by simpa using h
  refine D ?_;refine V [0] (lC p hp) ?_;refine V [0] (lJ p 7 p.place) ?_;refine c8 ?_;rw [RS.aR,ab h];exact zah
open Go.Xp (T one levels)
theorem xO (p:RS) (d:Nat) (hp:p.ok):GF prog 252 [.loc 0 0,.v (ii d)] [bW p] (.tup []) [bW (p.deep d)]:=by
 by_cases h:d > 60
 ·have h':decide ((60:Int) < (d:Int))=true:=by simp;omega
  refine ai func252 ntmps252 ?_;refine V [0] (lC p hp) ?_;refine V [0] (lJ p 9 p.place) ?_;refine c8 ?_;rw [RS.deep,ah h];exact zah
 ·have h':decide ((60:Int) < (d:Int))=false:=by simp;omega
  refine ai func252 ntmps252 ?_;refine c8 ?_;rw [RS.deep,ab h];exact zah
theorem q6 (p:RS) (hp:p.ok):GF prog 217 [.loc 0 0] [bW p] (.v (sv p.name.1)) [bW p.name.2]:=by
 obtain ⟨mU,eY⟩:=id hp
 by_cases hc:p.code=0
 ·have dP:(p.code != 0)=false:=by simpa using hc
  cases ht:p.l[p.i]? with
  | some t =>
   have hr:=mN ht;have au:p.i < p.l.length:=(bB ht).1
   have hd:decide (((p.l.map dm).length:Int)<=(p.i:Int))=false:=by simp;omega
   by_cases hk:t.kind=2
   ·have fm:(t.kind != 2)=false:=by simpa using hk
    by_cases hs:t.s.length > 12
    ·have pA:decide ((12:Int) < (t.s.length:Int))=true:=by simp;omega
     refine ai func217 ntmps217 ?_;refine aM (ax 0 24 .nil) ?_;refine bm ?_;refine zc7 ?_;refine V [0] (lJ p 8 t.at_) ?_;refine bY ?_;rw [RS.name,ah hc,ht];simp only [ah hk,ah hs];exact zah
    ·have pA:decide ((12:Int) < (t.s.length:Int))=false:=by simp;omega
     refine ai func217 ntmps217 ?_;refine aM (ax 0 24 .nil) ?_;refine bm ?_;refine zc7 ?_;refine bY ?_;rw [RS.name,ah hc,ht];simp only [ah hk,ab hs];exact zah
   ·have fm:(t.kind != 2)=true:=by simpa using hk
    refine ai func217 ntmps217 ?_;refine zdo ?_;simp only [ab hk];exact zah
  | none =>
   have au:p.l.length<=p.i:=pS ht
   have hd:decide (((p.l.map dm).length:Int)<=(p.i:Int))=true:=by simp;omega
   refine ai func217 ntmps217 ?_;refine zdo ?_;exact zah
 ·have dP:(p.code != 0)=true:=by simpa using hc
  refine ai func217 ntmps217 ?_;refine bY ?_;rw [RS.name,ab hc];exact zah
abbrev ints (l:List Int):GV:=.sl 1 (l.map fun i=>[.v (ii i)])
abbrev strs (l:List ae):GV:=.sl 1 (l.map fun s=>[.v (sv s)])
mutual
def Z4:T->List GV
 | .mk n k=>[.v (ii n.kind),.v (ii n.at_),.v (ii n.n),.v (sv n.s),ints n.kids,.sl 6 (ba k)]
def ba:List T->List (List GV)
 | []=>[]
 | t::r=>Z4 t::ba r
end
abbrev cT (t:T):List GV:=[.v (ii t.n.kind),.v (ii t.n.at_),.v (ii t.n.n),.v (sv t.n.s),ints t.n.kids,.sl 6 (ba t.kids)]
theorem wa (t:T):Z4 t=cT t:=by
 cases t;rfl
theorem jD (k a:Int) (s:ae) (l:List T) (rows:List (List GV)) (h:ba l=rows):GF prog 253 [.v (ii k),.v (ii a),.v (sv s),.sl 6 rows] [] (.agg (cT (one k a s l))) []:=by
 subst h;refine ai func253 ntmps253 ?_;refine uU ?_;exact zaZ
theorem lB:GF prog 144 [] [] (.sl 1 (levels.map fun l=>[strs l])) []:=by
 refine ai func144 ntmps144 ?_
 iterate 10 (refine b8 ?_)
 exact ay
theorem vI {xs:List ae} {k:Nat} {s x:ae} (h:xs[k]?=some x):(xs.take (k+1)).contains s=((xs.take k).contains s || (x==s)):=by
 rw [dk,h,List.contains_append];show (_ || [x].contains s)=_
 congr 1
 exact zb6
theorem lh (xs:List ae) (s:ae) (hl:xs.length<=1099511627776):GF prog 197 [strs xs,.v (sv s)] [] (.v (.bool (xs.contains s))) []:=by
 refine ai func197 ntmps197 ?_;refine GW.range (xs.map fun s=>[GV.v (sv s)]).length (fun k fr Γ=>fr=[strs xs,.v (sv s),U,U,U,U,U,strs xs,.v (ii ((xs.map fun s=>[GV.v (sv s)]).length:Int)),.v (ii k),U,U,U,U,U,U,U]/\Γ=[]/\(xs.take k).contains s=false) ?_ zge ?_ ?_ ?_
 ·exact lN
 ·exact jn
 ·rintro k _ _ au ⟨rfl,rfl,hc⟩
  have au:k < xs.length:=by simpa using au
  have hx:xs[k]?=some xs[k]:=by simp [au]
  have hr:(xs.map fun s=>[GV.v (sv s)])[k]?=some [.v (sv xs[k])]:=by simp [au]
  have jL:=vI (s:=s) hx;refine D ?_;refine GW.cond rfl (fun G=>?_) (fun G=>?_)
  ·refine zdh ?_
   have h3:xs[k]=s:=by simpa using G
   have:s∈xs:=by rw [<-h3];exact getElem_mem _
   exact zfD
  ·exact zet
 ·rintro _ _ ⟨rfl,rfl,hc⟩;refine zdh ?_
  have hc:xs.contains s=false:=by simpa using hc
  refine ⟨?_,rfl⟩;show GV.v (.bool false)=_;rw [hc]
end Go.Xg
namespace Go.Xg
open Go.RowKit Go.Xw
section
variable {P:Program} {m:Nat} {Q:eC} {fr:List GV} {Γ:List Ob}
theorem GW.EO {c y:Code} {B:Nat} (K:List GV->List Ob->Prop) (I:GW P m c (aW B (aU (CM m K) Q)) fr Γ) (G:∀ fr Γ,K fr Γ->GW P m y Q fr Γ):GW P m c (aW B (aU (GW P m y Q) Q)) fr Γ:=by
 refine I.mono fun e fr Γ hq=>?_
 have key:∀ fr Γ,CM m K fr Γ->GW P m y Q fr Γ:=fun fr Γ ⟨cV,aZ,hw,hk⟩=>GW.wk hw (G _ _ hk)
 cases e with
 | normal=>exact key _ _ hq
 | exit n =>
  simp only [aW] at hq |-;split
  ·rename_i hn;rw [ah hn] at hq;exact key _ _ hq
  ·rename_i hn;rw [ab hn] at hq;exact hq
 | _=>exact hq
end
section
variable {P:Program} {fn:Func} {m:Nat} {R:GV->List Ob->Prop} {fr:List GV} {Γ:List Ob} {e:Exit}
theorem abS {n:Nat} {t u:Tmp} {T:TypeId} {k:Nat} [hT:Ty P T true k] {i:Nat} {E:TypeId} {cs:List GV} {g:GV} (hr:fn.results=#[.cell t T,.tmp u]) (he:e=.normal\/e=.ret) (hg:dc fr t=.loc i 0) (bH:Γ[i]?=some (.box E cs)) (hk:cs.length=k) (iO:dc fr u=g)
  (hm:m<=n) (hl:vQ n (Γ.take n)=true) (kQ:(GV.tup [.agg cs,g]).lt n=true) (h:R (.tup [.agg cs,g]) (Γ.take n)):wL P fn m R e fr Γ :=
 ⟨he,fun B K β w l hB hI hF=>by
  obtain ⟨b,vs,I,G,h3,h4⟩:=hI.ob i _ bH
  have hp:nth l t=.pointer (some ⟨b,0,none⟩):=by
   have:=hF.nth t;rw [hg] at this;generalize nth l t=v at this
   cases this with
   | loc _ _ b' bG=>rw [I] at bG;cases bG;rfl
  have mH:l.toArray.getD t undef=.pointer (some ⟨b,0,none⟩):=by rw [kX,hp]
  have EA:=pe (P:=P) (w:=w) (t:=T) (b:=b) (o:=0) (vs:=vs) (k:=k) zgS (fun j v hj=>by
   rw [dJ,cell_of_row w b j _ E (0,0) G];simpa using hj)
  have zU:l[t]?.getD undef=.pointer (some ⟨b,0,none⟩):=by simpa using mH
  refine ⟨.tuple #[.agg vs.toArray,nth l u],K,fi (below n) β,.tup [.agg cs,g],Γ.take n,?_,hI.cut X hl,?_,h⟩
  ·rw [<-kX l u];exact zeu
  ·refine Rel.res ?_ kQ;subst iO;have hc:bC K β [.agg vs.toArray,nth l u] [.agg cs,dc fr u]:=.cons (.agg vs cs h3.1 h3.2) (.cons (hF.nth u) .nil)
   exact .tup _ _ hc.1 hc.2⟩
theorem RG {n:Nat} {t u s:Tmp} {T:TypeId} {k:Nat} [hT:Ty P T true k] {i:Nat} {E:TypeId} {cs:List GV} {g g':GV} (hr:fn.results=#[.cell t T,.tmp u,.tmp s]) (he:e=.normal\/e=.ret) (hg:dc fr t=.loc i 0) (bH:Γ[i]?=some (.box E cs)) (hk:cs.length=k) (iO:dc fr u=g) (RV:dc fr s=g')
  (hm:m<=n) (hl:vQ n (Γ.take n)=true) (kQ:(GV.tup [.agg cs,g,g']).lt n=true) (h:R (.tup [.agg cs,g,g']) (Γ.take n)):wL P fn m R e fr Γ :=
 ⟨he,fun B K β w l hB hI hF=>by
  obtain ⟨b,vs,I,G,h3,h4⟩:=hI.ob i _ bH
  have hp:nth l t=.pointer (some ⟨b,0,none⟩):=by
   have:=hF.nth t;rw [hg] at this;generalize nth l t=v at this
   cases this with
   | loc _ _ b' bG=>rw [I] at bG;cases bG;rfl
  have mH:l.toArray.getD t undef=.pointer (some ⟨b,0,none⟩):=by rw [kX,hp]
  have EA:=pe (P:=P) (w:=w) (t:=T) (b:=b) (o:=0) (vs:=vs) (k:=k) zgS (fun j v hj=>by
   rw [dJ,cell_of_row w b j _ E (0,0) G];simpa using hj)
  have zU:l[t]?.getD undef=.pointer (some ⟨b,0,none⟩):=by simpa using mH
  refine ⟨.tuple #[.agg vs.toArray,nth l u,nth l s],K,fi (below n) β,.tup [.agg cs,g,g'],Γ.take n,?_,hI.cut X hl,?_,h⟩
  ·rw [<-kX l u,<-kX l s];exact zeu
  ·refine Rel.res ?_ kQ;subst iO RV;have hc:bC K β [.agg vs.toArray,nth l u,nth l s] [.agg cs,dc fr u,dc fr s]:=.cons (.agg vs cs h3.1 h3.2) (.cons (hF.nth u) (.cons (hF.nth s) .nil))
   exact .tup _ _ hc.1 hc.2⟩
end
open Go.Proofs Tryz Go.Sp
open GV (U)
attribute [local irreducible] GW GL GO YG GC GA aU aW
abbrev GX (c:UInt8):GV:=.v (.int .u8 (c.toNat:Int))
theorem z7 (c:UInt8):GF prog 271 [GX c] [] (.v (.bool (small c))) []:=by
 unfold small;refine dh func271 ntmps271 ?_
 cases h:decide ((97:Int)<=(c.toNat:Int))
 all_goals
  exact ay
theorem z6 (c:UInt8):GF prog 269 [GX c] [] (.v (.bool (eV c))) []:=by
 unfold eV;refine dh func269 ntmps269 ?_
 cases h:decide ((48:Int)<=(c.toNat:Int))
 all_goals
  exact ay
theorem Hu (c:UInt8):GF prog 272 [GX c] [] (.v (.bool (ff c))) []:=by
 unfold ff;have hs:=z7 c;have hd:=z6 c;generalize small c=b1 at *;generalize eV c=b2 at *;refine ai func272 ntmps272 ?_;refine kA [] hs ?_
 cases b1 with
 | true =>
  exact ay
 | false =>
  cases I:decide ((65:Int)<=(c.toNat:Int)) with
  | true =>
   cases G:decide ((c.toNat:Int)<=90) with
   | true =>
    exact ay
   | false =>
    refine D ?_;refine kA [] hd ?_
    cases b2 with
    | true =>
     exact ay
    | false =>
     exact ay
  | false =>
   refine D ?_;refine kA [] hd ?_
   cases b2 with
   | true =>
    exact ay
   | false =>
    exact ay
theorem r8 (s t:ae) (a:Nat) (hs:s.length<=1152921504606846976) (ht:t.length<=1152921504606846976) (ha:a<=1152921504606846976) :
  GF prog 268 [.v (sv s),.v (ii (a:Nat)),.v (sv t)] [] (.v (.bool (cv s a t))) []:=by
 by_cases h:a+t.length<=s.length
 ·have h':decide (((a+t.length:Nat):Int)<=(s.length:Int))=true:=by simpa using by omega
  refine ai func268 ntmps268 ?_;refine bY ?_;unfold cv;rw [decide_eq_true h];exact zah
 ·have h':decide (((a+t.length:Nat):Int)<=(s.length:Int))=false:=by simpa using by omega
  refine ai func268 ntmps268 ?_;refine bY ?_;unfold cv;rw [decide_eq_false h];exact zah
theorem Fi (s:ae) (a:Nat) (hs:s.length<=1099511627776) (ha:a<=s.length) :
  GF prog 213 [.v (sv s),.v (ii (a:Nat))] [] (.tup [.v (ii ((skip s (s.length+1) a).1:Nat)),.v (ii (skip s (s.length+1) a).2)]) []:=by
 generalize hR:skip s (s.length+1) a=R;refine ai func213 ntmps213 ?_;refine GW.loop (fun x:Nat × Nat=>x.1) (fun x fr Γ=>fr=[.v (sv s),.v (ii (x.2:Nat)),U,U,U,U,U,U,U,U,U,U,U,U,U,U,U,U,U,U,U,U,U,U,U,U,U,U,U,U,U,U,U,U,U,U,U,U,U,U,U,U,U,U,U,U,U,U,U,U,U,U,U,U,U,U,U,U,U,U,U,U,U]/\Γ=[]/\x.2<=s.length/\s.length < x.1+x.2/\skip s x.1 x.2=R) (s.length+1,a) ?_ ?_
 ·exact ⟨_,_,Wk.aH ao,rfl,rfl,ha,by simp;omega,hR⟩
 ·rintro ⟨f,a⟩ _ _ ⟨rfl,rfl,ha,hf,h⟩;simp only at ha hf h
  cases f with
  | zero=>omega
  | succ f =>
  rw [skip] at h
  cases hc:s[a]? with
  | none =>
   rw [hc] at h;simp only at h;subst h;have kP:s.length<=a:=pS hc
   have hd:decide ((a:Int) < (s.length:Int))=false:=by simpa using kP
   refine eE ?_;exact sH
  | some c =>
   rw [hc] at h;simp only at h;have au:a < s.length:=(bB hc).1
   have hd:decide ((a:Int) < (s.length:Int))=true:=by simpa using au
   have hb:fY c=(((c.toNat:Int)==32) || ((c.toNat:Int)==9) || ((c.toNat:Int)==10) || ((c.toNat:Int)==13)):=rfl
   by_cases kO:fY c=true
   ·rw [ah kO] at h;rw [hb] at kO;have J1:((c.toNat:Int)==32)=true\/(((c.toNat:Int)==32)=false/\((c.toNat:Int)==9)=true)\/(((c.toNat:Int)==32)=false/\((c.toNat:Int)==9)=false/\((c.toNat:Int)==10)=true) \/
      (((c.toNat:Int)==32)=false/\((c.toNat:Int)==9)=false/\((c.toNat:Int)==10)=false/\((c.toNat:Int)==13)=true):=by
     generalize ((c.toNat:Int)==32)=b1 at *;generalize ((c.toNat:Int)==9)=b2 at *;generalize ((c.toNat:Int)==10)=b3 at *;generalize ((c.toNat:Int)==13)=b4 at *;clear hb
     revert kO;cases b1 <;> cases b2 <;> cases b3 <;> cases b4 <;> simp
    clear hb kO
    rcases J1 with k1 | ⟨k1,k2⟩ | ⟨k1,k2,k3⟩ | ⟨k1,k2,k3,k4⟩
    all_goals
     refine eE ?_;exact ⟨(f,a+1),⟨_,_,Wk.aH ao,rfl,rfl,by simp only;omega,by simp only;omega,h⟩,by simp⟩
   ·rw [ab kO] at h;rw [hb] at kO
    have J1:((c.toNat:Int)==32)=false/\((c.toNat:Int)==9)=false/\((c.toNat:Int)==10)=false/\((c.toNat:Int)==13)=false:=by
     generalize ((c.toNat:Int)==32)=b1 at *;generalize ((c.toNat:Int)==9)=b2 at *;generalize ((c.toNat:Int)==10)=b3 at *;generalize ((c.toNat:Int)==13)=b4 at *;clear hb
     revert kO;cases b1 <;> cases b2 <;> cases b3 <;> cases b4 <;> simp
    clear hb kO;obtain ⟨k1,k2,k3,k4⟩:=J1
    by_cases qU:cv s a [47,42]=true
    ·rw [ah qU] at h;have kO:=mA qU;have kO:a+2<=s.length:=kO
     have sR:(!cv s a [47,42])=false:=by rw [qU];rfl
     try simp only at h
     generalize he:gH s s.length (a+2)=e at h;refine D ?_;refine V [] (r8 s [47,42] a X aD X) ?_;have RT:=uZ s s.length (a+2) X X;have Bh:=vT s s.length (a+2) X;rw [he] at RT Bh;refine GW.EO (fun fr Γ=>fr=[.v (sv s),.v (ii (a:Nat)),U,U,U,U,.v (ii (e:Nat)),U,U,U,U,U,U,U,U,U,U,U,U,U,U,U,U,U,U,U,U,U,U,U,U,U,U,U,U,U,U,U,U,U,U,U,U,U,U,U,U,U,U,U,U,U,U,U,U,U,U,U,U,U,U,U,U]/\Γ=[]) ?_ ?_
     ·refine GW.loop (fun x:Nat × Nat=>x.1) (fun x fr Γ=>fr=[.v (sv s),.v (ii (a:Nat)),U,U,U,U,.v (ii (x.2:Nat)),U,U,U,U,U,U,U,U,U,U,U,U,U,U,U,U,U,U,U,U,U,U,U,U,U,U,U,U,U,U,U,U,U,U,U,U,U,U,U,U,U,U,U,U,U,U,U,U,U,U,U,U,U,U,U,U]/\Γ=[]/\x.2<=s.length/\gH s x.1 x.2=e) (s.length,a+2) ?_ ?_
      ·exact ⟨_,_,Wk.aH ao,rfl,rfl,by simp only;omega,he⟩
      ·rintro ⟨g,e'⟩ _ _ ⟨rfl,rfl,hle,wP⟩;simp only at hle wP
       by_cases hstop:e' < s.length
       ·have qb:decide ((e':Int) < (s.length:Int))=true:=by simpa using hstop
        cases rF:cv s e' [42,47] with
        | true =>
         have ade:(!cv s e' [42,47])=false:=by rw [rF];rfl
         have AK:e'=e:=by
          cases g with
          | zero=>exact wP
          | succ g=>rw [gH,ab (by rw [rF];simp)] at wP;exact wP
         subst AK;refine D ?_;refine V [] (r8 s [42,47] e' X aD X) ?_;refine kB ?_;exact jo
        | false =>
         have ade:(!cv s e' [42,47])=true:=by rw [rF];rfl
         cases g with
         | zero=>exact absurd ⟨by rw [<-wP];exact hstop,by rw [<-wP];exact rF⟩ RT
         | succ g =>
          rw [gH,ah ⟨hstop,rF⟩] at wP;refine D ?_;refine V [] (r8 s [42,47] e' X aD X) ?_;exact ⟨(g,e'+1),⟨_,_,Wk.aH ao,rfl,rfl,hstop,wP⟩,by simp⟩
       ·have qb:decide ((e':Int) < (s.length:Int))=false:=by simp;omega
        have AK:e'=e:=by
         cases g with
         | zero=>exact wP
         | succ g=>rw [gH,ab (fun hh=>hstop hh.1)] at wP;exact wP
        subst AK;refine eE ?_;exact jo
     ·rintro _ _ ⟨rfl,rfl⟩
      by_cases hle:s.length<=e
      ·rw [ah hle] at h
       have adu:decide ((s.length:Int)<=(e:Int))=true:=by simpa using hle
       subst h;exact sH
      ·rw [ab hle] at h
       have adu:decide ((s.length:Int)<=(e:Int))=false:=by simp;omega
       have rF:cv s e [42,47]=true:=by
        cases rF:cv s e [42,47] with
        | true=>rfl
        | false=>exact absurd ⟨by omega,rF⟩ RT
       have rF:=mA rF;have rF:e+2<=s.length:=rF;refine eE ?_;exact ⟨(f,e+2),⟨_,_,Wk.aH ao,rfl,rfl,rF,by simp only;omega,h⟩,by simp⟩
    ·rw [ab qU] at h
     have sR:(!cv s a [47,42])=true:=by simpa using qU
     subst h;refine D ?_;refine V [] (r8 s [47,42] a X aD X) ?_;exact mn
theorem z8:GF prog 250 [] [] (strs words) []:=by
 refine ai func250 ntmps250 ?_;refine b8 ?_;exact ay
theorem Pq:GF prog 273 [] [] (strs cr) []:=by
 refine ai func273 ntmps273 ?_;refine b8 ?_;exact ay
theorem Sy (s:ae) (hs:s.length<=1099511627776):GF prog 249 [.v (sv s)] [] (.v (.bool (word s))) []:=by
 refine ai func249 ntmps249 ?_;refine GW.loop (fun a:Nat=>s.length - a) (fun a fr Γ=>fr=[.v (sv s),U,U,.v (ii (a:Nat)),U,U,U,U,U,U,U,U,U,U,U,U,U,U,U,U,U,U]/\Γ=[]/\a<=s.length/\(s.take a).all ff=true) 0 ?_ ?_
 ·exact ⟨_,_,Wk.aH ao,rfl,rfl,aS _,rfl⟩
 ·rintro a _ _ ⟨rfl,rfl,ha,bj⟩
  cases hc:s[a]? with
  | some c =>
   have au:a < s.length:=(bB hc).1
   have hd:decide ((a:Int) < (s.length:Int))=true:=by simpa using au
   have cl:(s.take (a+1)).all ff=((s.take a).all ff&&ff c):=by
    rw [dk,hc,List.all_append];simp
   have hp:=Hu c
   cases hn:ff c with
   | true =>
    rw [hn] at hp;refine D ?_;refine V [] hp ?_;exact ⟨a+1,⟨_,_,Wk.aH ao,rfl,rfl,au,by rw [cl,bj,hn];rfl⟩,by omega⟩
   | false =>
    rw [hn] at hp;refine D ?_;refine V [] hp ?_;refine bY ?_;refine ⟨?_,rfl⟩
    have hw:word s=false:=by
     have:s.all ff=false:=by
      rw [List.all_eq_false];exact ⟨c,bo hc,by rw [hn];decide⟩
     unfold word;rw [this];rfl
    rw [hw];rfl
  | none =>
   have kP:s.length<=a:=pS hc
   have hd:decide ((a:Int) < (s.length:Int))=false:=by simpa using kP
   have bj:s.all ff=true:=by rw [n7 kP] at bj;exact bj
   cases s with
   | nil =>
    exact zd3
   | cons c r =>
    have hr:(c::r)[0]?=some c:=rfl;refine zbG ?_;refine V [] (z7 c) ?_;refine bY ?_;refine ⟨?_,rfl⟩;unfold word;rw [bj];rfl
theorem fC (s:ae) (hs:s.length<=1099511627776):GF prog 191 [.v (sv s)] [] (.v (.bool (bT s))) []:=by
 have hw:=Sy s hs;unfold bT;generalize word s=b at *;refine ai func191 ntmps191 ?_;refine kA [] hw ?_
 cases b with
 | false =>
  exact ay
 | true =>
  by_cases oT:s.length<=12
  ·have ac6:decide ((s.length:Int)<=12)=true:=by simpa using by omega
   refine D ?_;refine V [] z8 ?_;refine V [] (lh words s aD) ?_;refine bY ?_;rw [decide_eq_true oT];exact zah
  ·have ac6:decide ((s.length:Int)<=12)=false:=by simpa using by omega
   refine zdh ?_;rw [decide_eq_false oT];exact zah
theorem LV (s:ae) (a:Nat) (hs:s.length<=1099511627776) (ha:a<=s.length) :
  GF prog 270 [.v (sv s),.v (ii (a:Nat))] [] (.tup [.agg (dm ⟨1,(number s (s.length+1) 0 a).1,[],a⟩),.v (ii ((number s (s.length+1) 0 a).2:Nat))]) []:=by
 generalize hR:number s (s.length+1) 0 a=R;generalize ha0:a=a0 at *;refine ai func270 ntmps270 ?_;refine GW.loop (fun x:Nat × Int × Nat=>x.1) (fun x fr Γ=>fr=[.v (sv s),.v (ii (x.2.2:Nat)),U,U,.loc 0 0,U,.loc 1 0,U,U,U,U,U,U,U,U,U,U,U,U,U,U,U,U,U,U,U,U,U,U,U,U,U,U,U,U,U]/\Γ=[.box 168 [.v (ii 0),.v (ii 0),.v (sv []),.v (ii 0)],.box 168 (dm ⟨1,x.2.1,[],a0⟩)]/\x.2.2<=s.length/\s.length < x.1+x.2.2/\number s x.1 x.2.1 x.2.2=R/\0<=x.2.1/\x.2.1<=21474836479) (s.length+1,0,a0) ?_ ?_
 ·exact ⟨_,_,Wk.aH ao,rfl,rfl,by simp only;omega,by simp only;omega,by rw [<-hR],by simp,by simp⟩
 ·rintro ⟨f,n,a⟩ _ _ ⟨rfl,rfl,ha,hf,h,wV,yS⟩;simp only at ha hf h wV yS
  cases f with
  | zero=>omega
  | succ f =>
  rw [number] at h
  cases hc:s[a]? with
  | none =>
   rw [hc] at h;simp only at h;subst h;have kP:s.length<=a:=pS hc
   have hd:decide ((a:Int) < (s.length:Int))=false:=by simpa using kP
   refine zbG ?_;refine lp ?_;exact zah
  | some c =>
   rw [hc] at h;simp only at h;have au:a < s.length:=(bB hc).1
   have hd:decide ((a:Int) < (s.length:Int))=true:=by simpa using au
   have qc:=z6 c
   cases hdc:eV c with
   | false =>
    rw [hdc] at qc;rw [ab (by rw [hdc];simp)] at h;subst h;refine D ?_;refine V [] qc ?_;refine kB ?_;refine D ?_;refine lp ?_;exact zah
   | true =>
    rw [hdc] at qc;rw [ah hdc] at h
    have Bu:(48:Int)<=(c.toNat:Int)/\(c.toNat:Int)<=57:=by
     simp only [eV,aK,decide_eq_true_eq] at hdc;exact hdc
    by_cases hn:n<=2147483647
    ·rw [ah hn] at h
     have yR:decide (n<=2147483647)=true:=by simpa using hn
     refine D ?_;refine V [] qc ?_;refine aM (ax 0 10 (.a 10 .nil)) ?_;refine bm ?_;exact ⟨(f,n * 10+((c.toNat:Int) - 48),a+1),⟨_,_,Wk.aH ao,rfl,rfl,au,by simp only;omega,h,by simp only;omega,by simp only;omega⟩,by simp⟩
    ·rw [ab hn] at h
     have yR:decide (n<=2147483647)=false:=by simpa using hn
     refine D ?_;refine V [] qc ?_;exact ⟨(f,n,a+1),⟨_,_,Wk.aH ao,rfl,rfl,au,by simp only;omega,h,wV,yS⟩,by simp⟩
open Go.Xp (Tok)
theorem Rp {xs:List ae} {p:ae->Bool} {k:Nat} {x:ae} (h:(xs.take k).find? p=none) (hx:xs[k]?=some x) (hp:p x=true):xs.find? p=some x:=by
 have au:=(bB hx).1
 have:xs=xs.take k++x::xs.drop (k+1):=by
  have I:=List.take_append_drop k xs;rw [n5 au] at I;rw [(bB hx).2] at I;exact I.symm
 rw [this,List.find?_append,h];simp [List.find?_cons,hp]
theorem Rn {xs:List ae} {p:ae->Bool} {k:Nat} {x:ae} (h:(xs.take k).find? p=none) (hx:xs[k]?=some x) (hp:p x=false):(xs.take (k+1)).find? p=none:=by
 rw [dk,hx,List.find?_append,h];simp [List.find?_cons,hp]
theorem Mi:∀ x∈cr,x.length<=1152921504606846976:=by decide
theorem J8 (s:ae) (a:Nat) (c:UInt8) (hs:s.length<=1099511627776) (hc:s[a]?=some c) :
  GF prog 214 [.v (sv s),.v (ii (a:Nat))] [] (.tup [.agg (dm (ia s a c).1),.v (ii ((ia s a c).2:Nat))]) []:=by
 have au:a < s.length:=(bB hc).1;have qc:=z6 c;have lT:=z7 c;unfold ia
 cases hdc:eV c with
 | true =>
  rw [hdc] at qc;rw [ah rfl];refine ai func214 ntmps214 ?_;refine V [] qc ?_;refine V [] (LV s a hs X) ?_;refine lp ?_;exact zah
 | false =>
  rw [hdc] at qc;rw [ab aD]
  cases hsc:small c with
  | true =>
   rw [hsc] at lT;rw [ah rfl];have hre:=rB s ff (s.length+1) a X X;have hw0:(s.take (gI s a)).drop a=jq s a:=rfl;have he0:run s ff (s.length+1) a=gI s a:=rfl;rw [he0] at hre;generalize he:gI s a=e at *;generalize hw:jq s a=w at *;have hw:=hw0;have he:=he0;refine ai func214 ntmps214 ?_;refine V [] qc ?_;refine V [] lT ?_;refine GW.EO (fun fr Γ=>fr=[.v (sv s),.v (ii (a:Nat)),U,U,.loc 0 0,U,.v (ii (e:Nat)),U,U,U,U,U,U,U,U,U,U,U,U,U,U,U,U,U,U,U,U,U,U,U,U,U,U,U,U,U,U,U,U,U,U,U,U,U,U,U,U,U,U,U,U,U,U,U,U,U,U,U,U,U,U,U,U,U,U,U,U,U,U]/\Γ=[.box 168 [.v (ii 0),.v (ii 0),.v (sv []),.v (ii 0)]]) ?_ ?_
   ·refine GW.loop (fun x:Nat × Nat=>x.1) (fun x fr Γ=>fr=[.v (sv s),.v (ii (a:Nat)),U,U,.loc 0 0,U,.v (ii (x.2:Nat)),U,U,U,U,U,U,U,U,U,U,U,U,U,U,U,U,U,U,U,U,U,U,U,U,U,U,U,U,U,U,U,U,U,U,U,U,U,U,U,U,U,U,U,U,U,U,U,U,U,U,U,U,U,U,U,U,U,U,U,U,U,U]/\Γ=[.box 168 [.v (ii 0),.v (ii 0),.v (sv []),.v (ii 0)]]/\x.2<=s.length/\s.length < x.1+x.2/\run s ff x.1 x.2=e) (s.length+1,a) ?_ ?_
    ·exact ⟨_,_,Wk.aH ao,rfl,rfl,by simp only;omega,by simp only;omega,he⟩
    ·rintro ⟨f,b⟩ _ _ ⟨rfl,rfl,hb,hf,h⟩;simp only at hb hf h
     cases f with
     | zero=>omega
     | succ f =>
     rw [run] at h
     cases CV:s[b]? with
     | none =>
      rw [CV] at h;simp only at h;subst h;have kP:s.length<=b:=pS CV
      have hd:decide ((b:Int) < (s.length:Int))=false:=by simpa using kP
      refine eE ?_;exact jo
     | some cb =>
      rw [CV] at h;simp only at h;have tL:b < s.length:=(bB CV).1
      have hd:decide ((b:Int) < (s.length:Int))=true:=by simpa using tL
      have hp:=Hu cb
      cases hn:ff cb with
      | true =>
       rw [hn] at hp;rw [ah hn] at h;refine D ?_;refine V [] hp ?_;exact ⟨(f,b+1),⟨_,_,Wk.aH ao,rfl,rfl,tL,by simp only;omega,h⟩,by simp⟩
      | false =>
       rw [hn] at hp;rw [ab (by rw [hn];decide)] at h;subst h;refine D ?_;refine V [] hp ?_;refine kB ?_;exact jo
   ·rintro _ _ ⟨rfl,rfl⟩;obtain ⟨_,I,G⟩:=hre;refine D ?_;rw [hw];have Bi:=lh words w aD
    cases hcw:words.contains w with
    | true =>
     rw [hcw] at Bi;refine zdX ?_;rw [ah rfl];exact zah
    | false =>
     rw [hcw] at Bi;refine zdX ?_;rw [ab aD];exact zah
  | false =>
   rw [hsc] at lT;rw [ab aD];refine ai func214 ntmps214 ?_;refine V [] qc ?_;refine V [] lT ?_;refine V [] Pq ?_;refine GW.range (cr.map fun s=>[GV.v (sv s)]).length (fun k fr Γ=>fr=[.v (sv s),.v (ii (a:Nat)),U,U,.loc 0 0,U,U,U,U,U,U,U,U,U,U,U,U,U,U,U,U,U,U,U,U,U,U,U,U,U,U,U,U,U,U,U,U,U,U,U,U,U,U,U,U,U,U,U,U,strs cr,.v (ii ((cr.map fun s=>[GV.v (sv s)]).length:Int)),.v (ii (k:Nat)),U,U,U,U,U,U,U,U,U,U,U,U,U,U,U,U,U]/\Γ=[.box 168 [.v (ii 0),.v (ii 0),.v (sv []),.v (ii 0)]]/\(cr.take k).find? (cv s a)=none) ?_ aD ?_ ?_ ?_
   ·exact lN
   ·exact jn
   ·rintro k _ _ hk ⟨rfl,rfl,hf⟩
    have hk:k < cr.length:=by simpa using hk
    have hx:cr[k]?=some cr[k]:=by simp [hk]
    have hr:(cr.map fun s=>[GV.v (sv s)])[k]?=some [.v (sv cr[k])]:=by simp [hk]
    have C6:=Mi _ (getElem_mem hk);generalize cr[k]=x at *;have qU:=r8 s x a X C6 X
    cases hb:cv s a x with
    | true =>
     rw [hb] at qU;have hfx:=Rp hf hx hb;refine D ?_;refine V [] qU ?_;refine lp ?_;rw [hfx];exact zah
    | false =>
     rw [hb] at qU;refine D ?_;refine V [] qU ?_;exact ⟨rfl,rfl,_,_,Wk.aH ao,rfl,rfl,Rn hf hx hb⟩
   ·rintro _ _ ⟨rfl,rfl,hf⟩
    have hf:cr.find? (cv s a)=none:=by
     rw [n7 zf8] at hf;exact hf
    refine D ?_;refine lp ?_;rw [hf];exact zah
theorem Lk {s:ae} {a:Nat} {c:UInt8} (hc:s[a]?=some c):a<=(ia s a c).2/\(ia s a c).2<=s.length:=by
 have au:a < s.length:=(bB hc).1;unfold ia;split
 ·exact (vX s (s.length+1) 0 a X X).2
 ·split
  ·exact (rB s ff (s.length+1) a X X).2
  ·split
   ·rename_i x hx;have:=mA (List.find?_some hx);exact ⟨Nat.le_add_right _ _,this⟩
   ·exact ⟨aI _,by omega⟩
theorem SC (s:ae) (l:List Tok) (hs:s.length<=1000000000000) (h:Go.Sp.iU s=some l) :
  GF prog 195 [.v (sv s)] [] (Go.Xg.iU l) []:=by
 rw [Go.Sp.iU] at h;have Xd:=Fi s 0 X (aS _);have nB:=wq s (s.length+1) 0 (aS _);generalize hS:skip s (s.length+1) 0=R at *;refine ai func195 ntmps195 ?_;refine lL ?_;refine D ?_;refine V [] Xd ?_;refine GW.loop (fun x:Nat × Nat × List Tok=>x.1) (fun x fr Γ=>∃ n rows,fr=[.v (sv s),U,U,.vec 0 n,.v (ii (x.2.1:Nat)),U,U,U,U,U,U,U,U,U,U,U,U,U,U,U,U,U,U,U,U,U,U,U,U,U,U,U,U,U,U]/\Γ=[.vec 168 4 0 rows]/\rows.length=n/\rows=x.2.2.map dm/\n+x.1<=s.length+2/\x.2.1<=s.length/\tY s x.1 x.2.1 x.2.2=some l) (s.length+2,R.1,[]) ?_ ?_
 ·exact ⟨_,_,Wk.aH ao,0,[],rfl,rfl,rfl,rfl,by simp,nB.2,h⟩
 ·rintro ⟨f,a,acc⟩ _ _ ⟨n,rows,rfl,rfl,hn,bD,vo,ha,h⟩;simp only at bD vo ha h
  cases f with
  | zero=>simp [tY] at h
  | succ f =>
  rw [tY] at h
  cases hc:s[a]? with
  | none =>
   rw [hc] at h;simp only at h;cases h;have kP:s.length<=a:=pS hc
   have hd:decide ((a:Int) < (s.length:Int))=false:=by simpa using kP
   subst bD;refine zbG ?_;refine GW.wk (Wk.jY (t:=2) rfl rfl rfl hn) ?_;exact al
  | some c =>
   rw [hc] at h;simp only at h;have au:a < s.length:=(bB hc).1
   have hd:decide ((a:Int) < (s.length:Int))=true:=by simpa using au
   have qF:=Lk hc;have eP:=J8 s a c X hc;generalize ia s a c=tk at *;have Pe:=Fi s tk.2 X qF.2;have Vb:=wq s (s.length+1) tk.2 qF.2;generalize skip s (s.length+1) tk.2=R2 at *;refine D ?_;refine V [] eP ?_;refine zby ?_;refine V [] Pe ?_;exact ⟨(f,R2.1,acc++[tk.1]),⟨_,_,(Wk.cut (n:=1) (c6 rfl) rfl).trans (Wk.aH ao),_,_,rfl,rfl,by simp [hn],by rw [l9,bD];rfl,by simp only;omega,by simp only;omega,h⟩,by simp⟩
open Go.Xp (T one levels)
structure II (f:Nat):Prop where
 expr:∀ d p t q,p.ok->d+f<=4611686018427387904->mE f (.expr d) p=some (t,q)->GF prog 289 [.loc 0 0,.v (ii (d:Nat))] [bW p] (.agg (cT t)) [bW q]
 level:∀ k d p t q,p.ok->k<=9->d+f<=4611686018427387904->mE f (.level k d) p=some (t,q)->GF prog 302 [.loc 0 0,.v (ii (k:Nat)),.v (ii (d:Nat))] [bW p] (.agg (cT t)) [bW q]
 operand:∀ d p t q,p.ok->d+f<=4611686018427387904->mE f (.operand d) p=some (t,q)->GF prog 308 [.loc 0 0,.v (ii (d:Nat))] [bW p] (.agg (cT t)) [bW q]
 named:∀ a s d p t q,p.ok->d+f<=4611686018427387904->mE f (.named a s d) p=some (t,q)->GF prog 311 [.loc 0 0,.v (ii a),.v (sv s),.v (ii (d:Nat))] [bW p] (.agg (cT t)) [bW q]
 list:∀ d p l q,p.ok->d+f<=4611686018427387904->mL f d p=some (l,q)->GF prog 315 [.loc 0 0,.v (ii (d:Nat))] [bW p] (.sl 6 (ba l)) [bW q]
theorem Z8 {f:Nat} (C:II f) (d:Nat) (p:RS) (t:T) (q:RS) (hp:p.ok) (hd:d+(f+1)<=4611686018427387904) (h:mE (f+1) (.expr d) p=some (t,q)) :
  GF prog 289 [.loc 0 0,.v (ii (d:Nat))] [bW p] (.agg (cT t)) [bW q]:=by
 rw [mE] at h;refine ai func289 ntmps289 ?_;refine V [0] (xO p d hp) ?_;refine V [0] (C.level 0 d _ t q ((jh hp d).ok hp) X X h) ?_;exact gi
theorem ND {k:Nat} (hk:k < 9):(levels.map fun l=>[strs l])[k]?=some [strs (levels.getD k [])]:=by
 have:k < levels.length:=hk;rw [bp,bV this,List.getD_eq_getElem?_getD,bV this];rfl
theorem F3:∀ k,k < 9->(levels.getD k []).length<=1099511627776:=by decide
abbrev zT:List GV:=[.v (ii 0),.v (ii 0),.v (ii 0),.v (sv []),.v (.slice none 0 0),.v (.slice none 0 0)]
theorem YO {f:Nat} (C:∀ f',f'<=f->II f') (k d:Nat) (p:RS) (t:T) (q:RS) (hp:p.ok) (hk:k<=9) (hd:d+(f+1)<=4611686018427387904) (h:mE (f+1) (.level k d) p=some (t,q)) :
  GF prog 302 [.loc 0 0,.v (ii (k:Nat)),.v (ii (d:Nat))] [bW p] (.agg (cT t)) [bW q]:=by
 rw [mE] at h
 by_cases C0:k=9
 ·subst C0;rw [ah rfl] at h;refine ai func302 ntmps302 ?_;refine V [] lB ?_;refine V [0] ((C f (aI _)).operand (d+1) p t q hp X h) ?_;exact gi
 ·rw [ab C0] at h
  have adr:((k:Int)==9)=false:=by simp;omega
  cases he:mE f (.level (k+1) d) p with
  | none=>exact za3
  | some r =>
   obtain ⟨out,p1⟩:=r;rw [he] at h;simp only at h;have mU:=((u4 f).1 _ _ _ _ hp he).ok hp;refine ai func302 ntmps302 ?_;refine V [] lB ?_;refine V [0] ((C f (aI _)).level (k+1) d p out p1 hp X X he) ?_;refine GW.loop (fun x:Nat × T × RS=>x.1) (fun x fr Γ=>fr=[.loc 0 0,.v (ii (k:Nat)),.v (ii (d:Nat)),U,U,U,.loc 1 0,.loc 2 0,U,U,U,U,U,U,U,U,U,U,U,U,U,U,U,U,U,U,U,U,U,U,U,U,U,U,U,U,U,U,U,U,U,U,U,U,U,U,U,U,U,U,U,U,U,U,U,U,U,U,U,U,U,U,U,U,U,U]/\Γ=[bW x.2.2,.box 86 zT,.box 86 (cT x.2.1)]/\x.2.2.ok/\x.1<=f/\mE x.1 (.loop k d x.2.1) x.2.2=some (t,q)) (f,out,p1) ?_ ?_
   ·exact ⟨_,_,Wk.aH ao,rfl,rfl,mU,aI _,h⟩
   ·rintro ⟨g,out,p⟩ _ _ ⟨rfl,rfl,hp,RW,h⟩;simp only at hp RW h
    cases g with
    | zero=>simp [mE] at h
    | succ g =>
    rw [mE] at h
    have hk:k < 9:=by omega
    by_cases hc:p.code=0
    ·have dP:(p.code==0)=true:=by simpa using hc
     have vn:=ND hk
     by_cases hit:(levels.getD k []).contains (p.sign 0)=true
     ·rw [ah ⟨hc,hit⟩] at h
      cases ht:p.l[p.i]? with
      | none=>rw [ht] at h;cases h
      | some tk =>
       rw [ht] at h;simp only at h;have au:=(bB ht).1;have hr:=mN ht;have cH:=hp.2
       cases hb:mE g (.level (k+1) d) p.next with
       | none=>exact zba
       | some r =>
        obtain ⟨b,p2⟩:=r;rw [hb] at h;simp only at h;have en:=(cX au).ok hp;have eY:=((u4 g).1 _ _ _ _ en hb).ok en;refine zbt ?_;refine D ?_;refine zc7 ?_;refine aM (ax 0 9 (.a 9 (.a 10 (.a 11 (.a 12 .nil))))) ?_;refine aj ?_;refine aC [0] ((C g X).level (k+1) d p.next b p2 en X X hb) ?_;refine zat ?_;refine ou [] (jD 6 tk.at_ tk.s [out,b] _ rE) ?_;refine Lr ?_;refine bm ?_;exact ⟨(g,one 6 tk.at_ tk.s [out,b],p2),⟨_,_,(Wk.cut (n:=3) (c6 rfl) rfl).trans (Wk.aH ao),rfl,rfl,eY,by omega,h⟩,by simp⟩
     ·have hit:(levels.getD k []).contains (p.sign 0)=false:=by simpa using hit
      rw [ab (by rw [hit];simp)] at h
      obtain ⟨rfl,rfl⟩:out=t/\p=q:=by simpa using h
      refine zbt ?_;refine eE ?_;exact ni
    ·have dP:(p.code==0)=false:=by simpa using hc
     rw [ab (fun hh=>hc hh.1)] at h
     obtain ⟨rfl,rfl⟩:out=t/\p=q:=by simpa using h
     refine D ?_;refine aM (ax 0 6 (.q 7 (.q 10 (.a 6 (.q 8 (.q 9 (.a 11 (.a 12 (.q 13 .nil))))))))) ?_;refine bm ?_;refine kB ?_;exact ni
theorem YU {f:Nat} (C:II f) (a:Int) (s:ae) (d:Nat) (p:RS) (t:T) (q:RS) (hp:p.ok) (hd:d+(f+1)<=4611686018427387904) (h:mE (f+1) (.named a s d) p=some (t,q)) :
  GF prog 311 [.loc 0 0,.v (ii a),.v (sv s),.v (ii (d:Nat))] [bW p] (.agg (cT t)) [bW q]:=by
 rw [mE] at h
 by_cases I:p.sign 0=[91]
 ·rw [ah I] at h
  have dD:(p.sign 0==[91])=true:=by simp [I]
  have au:=(dH I aD).1;have cH:=hp.2;have en:=(dV I aD).ok hp
  cases he:mE f (.expr (d+1)) p.next with
  | none=>exact za3
  | some r =>
   obtain ⟨b,p1⟩:=r;rw [he] at h;cases h;have mU:=((u4 f).1 _ _ _ _ en he).ok en;refine ai func311 ntmps311 ?_;refine V [0] (dw p 0 hp aD) ?_;refine V [0] (C.expr (d+1) p.next b p1 en X he) ?_;refine V [0] (c9 p1 [93] mU aD) ?_;refine zam ?_;refine V [] (jD 3 a s [b] _ rE) ?_;exact gi
 ·rw [ab I] at h
  have dD:(p.sign 0==[91])=false:=by simpa using I
  by_cases G:p.sign 0=[40]
  ·rw [ah G] at h
   have sP:(p.sign 0==[40])=true:=by simp [G]
   have au:=(dH G aD).1;have cH:=hp.2;have en:=(dV G aD).ok hp
   cases he:mL f (d+1) p.next with
   | none=>exact za3
   | some r =>
    obtain ⟨l,p1⟩:=r;rw [he] at h;cases h;refine ai func311 ntmps311 ?_;refine V [0] (dw p 0 hp aD) ?_;refine V [0] (C.list (d+1) p.next l q en X he) ?_;refine V [] (jD 4 a s l _ rfl) ?_;exact gi
  ·rw [ab G] at h
   have sP:(p.sign 0==[40])=false:=by simpa using G
   cases h;refine ai func311 ntmps311 ?_;refine V [0] (dw p 0 hp aD) ?_;refine V [] (jD 2 a s [] [] rfl) ?_;exact gi
theorem bh (l:List T):(ba l).length=l.length:=by
 induction l with
 | nil=>rfl
 | cons a l ih=>simp [ba,ih]
theorem xD (l:List T) (a:T):ba (l++[a])=ba l++[cT a]:=by
 induction l with
 | nil=>simp [ba,wa]
 | cons b l ih=>simp [ba,ih]
theorem aaO {f:Nat} (C:∀ f',f'<=f->II f') (d:Nat) (p:RS) (l:List T) (q:RS) (hp:p.ok) (hd:d+(f+1)<=4611686018427387904) (h:mL (f+1) d p=some (l,q)) :
  GF prog 315 [.loc 0 0,.v (ii (d:Nat))] [bW p] (.sl 6 (ba l)) [bW q]:=by
 rw [mL] at h
 by_cases I:p.sign 0=[41]
 ·rw [ah I] at h
  have dD:(!(p.sign 0==[41]))=false:=by simp [I]
  cases h;refine ai func315 ntmps315 ?_;refine lL ?_;refine zcz ?_;refine V [0] (c9 p [41] hp aD) ?_;refine GW.wk (Wk.jY (t:=4) rfl rfl rfl rfl) ?_;exact al
 ·rw [ab I] at h
  have dD:(!(p.sign 0==[41]))=true:=by simpa using I
  cases he:mE f (.expr d) p with
  | none=>exact za3
  | some r =>
   obtain ⟨a,p1⟩:=r;rw [he] at h;simp only at h;have mU:=((u4 f).1 _ _ _ _ hp he).ok hp;refine ai func315 ntmps315 ?_;refine lL ?_;refine zcz ?_;refine V [0] ((C f (aI _)).expr d p a p1 hp X he) ?_;refine zby ?_;refine GW.loop (fun x:Nat × List T × RS=>x.1) (fun x fr Γ=>∃ n rows,fr=[.loc 0 0,.v (ii (d:Nat)),U,U,U,.vec 1 n,U,U,U,U,U,U,U,U,U,U,U,U,U,U,U,U,U,U,U,U,U,U,U,U,U,U,U,U,U]/\Γ=[bW x.2.2,.vec 86 6 0 rows]/\rows.length=n/\rows=ba x.2.1/\n<=x.2.2.i+1/\x.2.2.ok/\x.1<=f/\td x.1 d x.2.1 x.2.2=some (l,q)) (f,[a],p1) ?_ ?_
   ·exact ⟨_,_,Wk.aH ao,_,_,rfl,rfl,rfl,(by simp only [ba,wa];rfl),(by show 1<=p1.i+1;omega),mU,aI _,h⟩
   ·rintro ⟨g,acc,p⟩ _ _ ⟨n,rows,rfl,rfl,hn,bD,W9,hp,RW,h⟩;simp only at bD W9 hp RW h
    cases g with
    | zero=>simp [td] at h
    | succ g =>
    rw [td] at h;have cH:=hp.2;have Hm:=hp.1
    by_cases G:p.sign 0=[44]
    ·rw [ah G] at h
     have sP:(p.sign 0==[44])=true:=by simp [G]
     have au:=(dH G aD).1;have en:=(dV G aD).ok hp
     cases hb:mE g (.expr d) p.next with
     | none=>exact zba
     | some r =>
      obtain ⟨b,p2⟩:=r;rw [hb] at h;simp only at h;have Xf:=(u4 g).1 _ _ _ _ en hb;have eY:=Xf.ok en;have tJ:p.i+1<=p2.i:=Xf.2.2.2;refine zcz ?_;refine V [0] ((C g X).expr d p.next b p2 en X hb) ?_;refine zby ?_;exact ⟨(g,acc++[b],p2),⟨_,_,Wk.aH ao,_,_,rfl,rfl,by simp [hn],by rw [xD,bD],by simp only;omega,eY,by simp only;omega,h⟩,by simp⟩
    ·rw [ab G] at h
     have sP:(p.sign 0==[44])=false:=by simpa using G
     obtain ⟨rfl,rfl⟩:acc=l/\p.aR [41]=q:=by simpa using h
     subst bD;refine zcz ?_;refine kB ?_;refine D ?_;refine V [0] (c9 p [41] hp aD) ?_;refine GW.wk (Wk.jY (t:=4) rfl rfl rfl hn) ?_;exact al
theorem Tc {f:Nat} (C:II f) (d:Nat) (p:RS) (t:T) (q:RS) (hp:p.ok) (hd:d+(f+1)<=4611686018427387904) (h:mE (f+1) (.operand d) p=some (t,q)) :
  GF prog 308 [.loc 0 0,.v (ii (d:Nat))] [bW p] (.agg (cT t)) [bW q]:=by
 rw [mE] at h;have nA:=(jh hp d).ok hp;have zQ:=xO p d hp;generalize p.deep d=p1 at *
 try simp only at h
 obtain ⟨Hm,cH⟩:=id nA
 by_cases hc:p1.code=0
 ·rw [ah hc] at h
  have dP:(p1.code != 0)=false:=by simpa using hc
  cases ht:p1.l[p1.i]? with
  | none =>
   rw [ht] at h;cases h;have kP:p1.l.length<=p1.i:=pS ht
   have adn:decide (((p1.l.map dm).length:Int)<=(p1.i:Int))=true:=by simp;omega
   exact zbC
  | some tk =>
   rw [ht] at h;simp only at h;have au:p1.i < p1.l.length:=(bB ht).1
   have adn:decide (((p1.l.map dm).length:Int)<=(p1.i:Int))=false:=by simp;omega
   have hr:=mN ht;have en:=(cX au).ok nA;refine ai func308 ntmps308 ?_;refine V [0] zQ ?_;refine aM (ax 0 17 .nil) ?_;refine bm ?_;refine zc7 ?_
   by_cases k1:tk.kind=1
   ·rw [ah k1] at h;cases h
    have k1':(tk.kind==1)=true:=by simpa using k1
    refine D ?_;refine uU ?_;exact zaZ
   ·rw [ab k1] at h
    have k1':(tk.kind==1)=false:=by simpa using k1
    by_cases k2:tk.kind=2
    ·rw [ah k2] at h
     have k2':(tk.kind==2)=true:=by simpa using k2
     refine D ?_;refine V [0] (q6 p1 nA) ?_;refine V [0] (C.named tk.at_ p1.name.1 d p1.name.2 t q ((fj nA).ok nA) X h) ?_;exact gi
    ·rw [ab k2] at h
     have k2':(tk.kind==2)=false:=by simpa using k2
     by_cases s3:tk.s=[45]\/tk.s=[33]\/tk.s=[126]
     ·rw [ah s3] at h
      cases he:mE f (.operand (d+1)) p1.next with
      | none=>exact za3
      | some r =>
       obtain ⟨a,p2⟩:=r;rw [he] at h;cases h
       have s3':(tk.s==[45])=true\/((tk.s==[45])=false/\(tk.s==[33])=true)\/((tk.s==[45])=false/\(tk.s==[33])=false/\(tk.s==[126])=true):=by
        rcases s3 with s3 | s3 | s3
        ·exact .inl (by simp [s3])
        ·exact .inr (.inl (by simp [s3]))
        ·exact .inr (.inr (by simp [s3]))
       refine D ?_
       rcases s3' with e1 | ⟨e1,e2⟩ | ⟨e1,e2,e3⟩
       all_goals
        refine D ?_;refine aM (ax 0 7 (.a 7 (.a 8 (.a 9 (.a 10 .nil))))) ?_;refine aj ?_;refine aC [0] (C.operand (d+1) p1.next a q en X he) ?_;refine zat ?_;refine ou [] (jD 5 tk.at_ tk.s [a] _ rE) ?_;refine Lr ?_;refine aj ?_;exact ni
     ·rw [ab s3] at h
      have e1:(tk.s==[45])=false:=by simp at s3;simpa using s3.1
      have e2:(tk.s==[33])=false:=by simp at s3;simpa using s3.2.1
      have e3:(tk.s==[126])=false:=by simp at s3;simpa using s3.2.2
      by_cases s4:tk.s=[40]
      ·rw [ah s4] at h
       have s4':(tk.s==[40])=true:=by simp [s4]
       cases he:mE f (.expr (d+1)) p1.next with
       | none=>exact za3
       | some r =>
        obtain ⟨a,p2⟩:=r;rw [he] at h;cases h;have eY:=((u4 f).1 _ _ _ _ en he).ok en;refine D ?_;refine V [0] (C.expr (d+1) p1.next t p2 en X he) ?_;refine V [0] (c9 p2 [41] eY aD) ?_;exact gi
      ·rw [ab s4] at h
       have s4':(tk.s==[40])=false:=by simpa using s4
       cases h;refine D ?_;refine V [0] (lJ p1 7 tk.at_) ?_;refine uU ?_;exact zaZ
 ·rw [ab hc] at h
  have dP:(p1.code != 0)=true:=by simpa using hc
  cases h;exact zbC
theorem rds (f:Nat):II f:=by
  induction f using Nat.strongRecOn with
  | _ f ih =>
   cases f with
   | zero=>exact ⟨fun d p t q _ _ h=>by simp [mE] at h,fun k d p t q _ _ _ h=>by simp [mE] at h,fun d p t q _ _ h=>by simp [mE] at h,fun a s d p t q _ _ h=>by simp [mE] at h,fun d p l q _ _ h=>by simp [mL] at h⟩
   | succ f =>
    have C:=ih f (Nat.lt_succ_self f)
    have Cs:∀ f',f'<=f->II f':=fun f' h=>ih f' (Nat.lt_succ_of_le h)
    exact ⟨fun d p t q hp hd h=>Z8 C d p t q hp hd h,fun k d p t q hp hk hd h=>YO Cs k d p t q hp hk hd h,fun d p t q hp hd h=>Tc C d p t q hp hd h,fun a s d p t q hp hd h=>YU C a s d p t q hp hd h,fun d p l q hp hd h=>aaO Cs d p l q hp hd h⟩
open Go.Xp (km)
structure Qv (f:Nat):Prop where
 block:∀ d p t q,p.ok->d+f<=1099511627776->mS f (.block d) p=some (t,q)->GF prog 196 [.loc 0 0,.v (ii (d:Nat))] [bW p] (.agg (cT t)) [bW q]
 stmt:∀ d p t q,p.ok->d+f<=1099511627776->mS f (.stmt d) p=some (t,q)->GF prog 254 [.loc 0 0,.v (ii (d:Nat))] [bW p] (.agg (cT t)) [bW q]
 cond:∀ a d p t q,p.ok->p.i < p.l.length->d+f<=1099511627776->mS f (.cond a d) p=some (t,q)->GF prog 290 [.loc 0 0,.v (ii a),.v (ii (d:Nat))] [bW p] (.agg (cT t)) [bW q]
theorem BG (d:Nat) (p:RS) (t:T) (q:RS) (hp:p.ok) (hd:d<=1099511627777) (h:mX d p=some (t,q)):GF prog 289 [.loc 0 0,.v (ii (d:Nat))] [bW p] (.agg (cT t)) [bW q] :=
 (rds (fe p)).expr d p t q hp (by have:=hp.2;unfold fe;omega) h
theorem Pr (k a:Int) (s:ae):GF prog 253 [.v (ii k),.v (ii a),.v (sv s),.v (.slice none 0 0)] [] (.agg [.v (ii k),.v (ii a),.v (ii 0),.v (sv s),ints [],.v (.slice none 0 0)]) []:=by
 refine ai func253 ntmps253 ?_;refine uU ?_;exact zaZ
theorem X6 {f:Nat} (C:∀ f',f'<=f->Qv f') (d:Nat) (p:RS) (t:T) (q:RS) (hp:p.ok) (hd:d+(f+1)<=1099511627776) (h:mS (f+1) (.block d) p=some (t,q)) :
  GF prog 196 [.loc 0 0,.v (ii (d:Nat))] [bW p] (.agg (cT t)) [bW q]:=by
 rw [mS] at h;have nA:=(jh hp d).ok hp;have zQ:=xO p d hp;generalize p.deep d=p1 at *
 try simp only at h
 have Br:=(bL nA (s:=[123]) aD).ok nA
 cases he:mB f (d+1) [] (p1.aR [123]) with
 | none=>exact za3
 | some r =>
  obtain ⟨l,q1⟩:=r;rw [he] at h;cases h;generalize cH:p1.place=pl;refine ai func196 ntmps196 ?_;refine V [0] zQ ?_;refine V [0] (lC p1 nA) ?_;refine V [] (Pr 14 p1.place []) ?_;refine V [0] (c9 p1 [123] nA aD) ?_;rw [cH];refine GW.wk (Wk.Ks (i:=2) (o:=5) 86 6 rfl rfl) ?_;refine GW.loop (fun x:Nat × List T × RS=>x.1) (fun x fr Γ=>∃ n rows,fr=[.loc 0 0,.v (ii (d:Nat)),U,U,.loc 1 0,.loc 2 0,U,U,U,U,U,U,U,U,U,U,U,U,U,U,U,U,U,U,U,U,U,U,U,U,U,U,U,U,U,U]/\Γ=[bW x.2.2,.box 86 zT,.box 86 [.v (ii 14),.v (ii pl),.v (ii 0),.v (sv []),ints [],.vec 3 n],.vec 86 6 0 rows]/\rows.length=n/\rows=ba x.2.1/\n+x.1<=f/\x.2.2.ok/\mB x.1 (d+1) x.2.1 x.2.2=some (l,q1)) (f,[],p1.aR [123]) ?_ ?_
  ·exact ⟨_,_,Wk.aH ao,0,[],rfl,rfl,rfl,rfl,by simp,Br,he⟩
  ·rintro ⟨g,acc,p⟩ _ _ ⟨n,rows,rfl,rfl,hn,bD,C3,hp,h⟩;simp only at bD C3 hp h
   cases g with
   | zero=>simp [mB] at h
   | succ g =>
   rw [mB] at h
   by_cases hc:p.code=0
   ·have dP:(p.code==0)=true:=by simpa using hc
    by_cases hs:p.sign 0=[125]
    ·rw [ab (fun hh=>hh.2 hs)] at h
     obtain ⟨rfl,rfl⟩:acc=l/\p=q1:=by simpa using h
     have pA:(!(p.sign 0==[125]))=false:=by simp [hs]
     subst bD;refine zcz ?_;refine kB ?_;refine D ?_;exact zcU
    ·rw [ah ⟨hc,hs⟩] at h
     have pA:(!(p.sign 0==[125]))=true:=by simpa using hs
     cases hb:mS g (.stmt (d+1)) p with
     | none=>exact zba
     | some r =>
      obtain ⟨a,p2⟩:=r;rw [hb] at h;simp only at h;have eY:=((sq g).1 _ _ _ _ hp (fun a d' h=>by cases h) hb).ok hp;refine zcz ?_;refine aM (ax 0 5 (.a 5 (.a 6 (.a 7 (.q 8 (.a 9 .nil)))))) ?_;refine aj ?_;refine aC [0] ((C g X).stmt (d+1) p a p2 hp X hb) ?_;refine zat ?_;refine wu ?_;refine bm ?_;exact ⟨(g,acc++[a],p2),⟨_,_,Wk.aH ao,_,_,rfl,rfl,by simp [hn],by rw [xD,bD];rfl,by show n+1+g<=f;omega,eY,h⟩,by simp⟩
   ·have dP:(p.code==0)=false:=by simpa using hc
    rw [ab (fun hh=>hc hh.1)] at h
    obtain ⟨rfl,rfl⟩:acc=l/\p=q1:=by simpa using h
    subst bD;refine zbG ?_;exact zcU
theorem Z0 {f:Nat} (C:Qv f) (a:Int) (d:Nat) (p:RS) (t:T) (q:RS) (hp:p.ok) (au:p.i < p.l.length) (hd:d+(f+1)<=1099511627776) (h:mS (f+1) (.cond a d) p=some (t,q)) :
  GF prog 290 [.loc 0 0,.v (ii a),.v (ii (d:Nat))] [bW p] (.agg (cT t)) [bW q]:=by
 rw [mS] at h
 try simp only at h
 have en:=(cX au).ok hp;have cH:=hp.2;have Br:=(bL en (s:=[40]) aD).ok en
 cases he:mX (d+1) (p.next.aR [40]) with
 | none=>exact za3
 | some r =>
 obtain ⟨e,p1⟩:=r;rw [he] at h;simp only at h;have mU:=(gD Br he).ok Br;have JT:=(bL mU (s:=[41]) aD).ok mU
 cases hb:mS f (.block (d+1)) (p1.aR [41]) with
 | none=>exact zba
 | some r =>
 obtain ⟨b,p2⟩:=r;rw [hb] at h;simp only at h;have eY:=((sq f).1 _ _ _ _ JT (fun a d' h=>by cases h) hb).ok JT;have aaC:=eY.2
 have key:∀ k:Int,(if k=9/\p2.sign 0=km then match mS f (.block (d+1)) p2.next with
     | none=>none
     | some (b2,q)=>some (one k a [] [e,b,b2],q)
    else some (one k a [] [e,b],p2))=some (t,q)->p.ck=k->(k=9\/k=10)->((p.sign 0==[105,102])=true/\k=9)\/((p.sign 0==[105,102])=false/\k=10):=by
  intro k _ hk _;unfold RS.ck at hk;split at hk
  ·rename_i hs;exact .inl ⟨by rw [hs];rfl,hk.symm⟩
  ·rename_i hs;refine .inr ⟨?_,hk.symm⟩
   cases hq:(p.sign 0==[105,102]) with
   | false=>rfl
   | true=>exact absurd (eq_of_beq hq) hs
 have ud:p.ck=9\/p.ck=10:=by unfold RS.ck;split <;> simp
 have key:=key p.ck h rfl ud;generalize p.ck=k at h key;clear ud
 rcases key with ⟨hs,rfl⟩ | ⟨hs,rfl⟩
 ·by_cases eH:p2.sign 0=km
  ·rw [ah ⟨rfl,eH⟩] at h
   have adl:(p2.sign 0==[101,108,115,101])=true:=by rw [eH];rfl
   have lI:=(dH eH aD).1;have adA:=(dV eH aD).ok eY
   cases eM:mS f (.block (d+1)) p2.next with
   | none=>rw [eM] at h;cases h
   | some r =>
   obtain ⟨b2,p3⟩:=r;rw [eM] at h;cases h;refine ai func290 ntmps290 ?_;refine zax ?_;refine aC [0] (C.block (d+1) _ b p2 JT X hb) ?_;refine wv ?_;refine bm ?_;refine V [0] (dw p2 0 eY aD) ?_;refine kA [0] (C.block (d+1) _ b2 q adA X eM) ?_;refine zby ?_;refine zeR ?_;refine V [] (jD 9 a [] [e,b,b2] _ rE) ?_;exact gi
  ·rw [ab (fun hh=>eH hh.2)] at h
   have adl:(p2.sign 0==[101,108,115,101])=false:=by
    cases hq:(p2.sign 0==[101,108,115,101]) with
    | false=>rfl
    | true=>exact absurd (eq_of_beq hq) eH
   cases h;refine ai func290 ntmps290 ?_;refine zax ?_;refine aC [0] (C.block (d+1) _ b q JT X hb) ?_;refine wv ?_;refine bm ?_;refine V [0] (dw q 0 eY aD) ?_;refine zeR ?_;refine V [] (jD 9 a [] [e,b] _ rE) ?_;exact gi
 ·rw [ab (fun hh=>by cases hh.1)] at h;cases h;refine ai func290 ntmps290 ?_;refine zax ?_;refine aC [0] (C.block (d+1) _ b q JT X hb) ?_;refine wv ?_;refine bm ?_;refine zeR ?_;refine V [] (jD 10 a [] [e,b] _ rE) ?_;exact gi
open Go.Xp (oE ir jd iR)
theorem yw {s t:ae} (h:¬ s=t):(s==t)=false:=by
 cases hq:(s==t) with
 | false=>rfl
 | true=>exact absurd (eq_of_beq hq) h
theorem abk {f:Nat} (C:Qv f) (d:Nat) (p:RS) (t:T) (q:RS) (hp:p.ok) (hd:d+(f+1)<=1099511627776) (h:mS (f+1) (.stmt d) p=some (t,q)) :
  GF prog 254 [.loc 0 0,.v (ii (d:Nat))] [bW p] (.agg (cT t)) [bW q]:=by
 rw [mS] at h;have nA:=(jh hp d).ok hp;have zQ:=xO p d hp;generalize p.deep d=p1 at *
 try simp only at h
 obtain ⟨Hm,cH⟩:=id nA;generalize AJ:p1.place=at_ at h;refine ai func254 ntmps254 ?_;refine V [0] zQ ?_;refine V [0] (lC p1 nA) ?_;refine kA [0] (dw p1 0 nA aD) ?_;rw [AJ]
 by_cases I:p1.sign 0=oE
 ·rw [ah I] at h
  have e1:(p1.sign 0==[118,97,114])=true:=by rw [I];rfl
  have au:=(dH I aD).1;have hn:=(dV I aD).ok nA;have dF:=(fj hn).ok hn;have fM:=(bL dF (s:=[61]) aD).ok dF
  cases he:mX (d+1) (p1.next.name.2.aR [61]) with
  | none=>exact za3
  | some r =>
  obtain ⟨e,p2⟩:=r;rw [he] at h;cases h;have eY:=(gD fM he).ok fM;refine D ?_;refine V [0] (q6 p1.next hn) ?_;refine zdJ ?_;refine V [] (jD 13 at_ p1.next.name.1 [e] _ rE) ?_;exact gi
 rw [ab I] at h;have e1:(p1.sign 0==[118,97,114])=false:=yw I
 by_cases G:p1.sign 0=ir\/p1.sign 0=jd
 ·rw [ah G] at h
  have e2:(p1.sign 0==[105,102])=true\/((p1.sign 0==[105,102])=false/\(p1.sign 0==[119,104,105,108,101])=true):=by
   rcases G with G | G
   ·exact .inl (by rw [G];rfl)
   ·exact .inr ⟨by rw [G];rfl,by rw [G];rfl⟩
  have au:p1.i < p1.l.length:=by
   rcases G with G | G
   ·exact (dH G aD).1
   ·exact (dH G aD).1
  rcases e2 with e2 | ⟨e2,e3⟩
  all_goals
   refine D ?_;refine V [0] (C.cond at_ d p1 t q nA au X h) ?_;exact gi
 rw [ab G] at h
 have e2:(p1.sign 0==[105,102])=false:=yw fun hh=>G (.inl hh)
 have e3:(p1.sign 0==[119,104,105,108,101])=false:=yw fun hh=>G (.inr hh)
 by_cases h4:p1.sign 0=iR
 ·rw [ah h4] at h
  have e4:(p1.sign 0==[114,101,116,117,114,110])=true:=by rw [h4];rfl
  have au:=(dH h4 aD).1;have hn:=(dV h4 aD).ok nA
  cases he:mX (d+1) p1.next with
  | none=>exact za3
  | some r =>
  obtain ⟨e,p2⟩:=r;rw [he] at h;cases h;have eY:=(gD hn he).ok hn;refine D ?_;refine V [0] (BG (d+1) _ e p2 hn X he) ?_;refine V [0] (c9 p2 [59] eY aD) ?_;refine zam ?_;refine V [] (jD 11 at_ [] [e] _ rE) ?_;exact gi
 rw [ab h4] at h;have e4:(p1.sign 0==[114,101,116,117,114,110])=false:=yw h4
 by_cases h5:p1.code=0/\p1.qZ=true/\p1.sign 1=[61]
 ·rw [ah h5] at h;obtain ⟨hc,JR,kE⟩:=h5
  have dP:(p1.code==0)=true:=by simpa using hc
  have aeA:(p1.sign 1==[61])=true:=by rw [kE];rfl
  unfold RS.qZ at JR
  cases ht:p1.l[p1.i]? with
  | none=>rw [ht] at JR;cases JR
  | some tk =>
  rw [ht] at JR
  have hk:(tk.kind==2)=true:=by simpa using JR
  have au:=(bB ht).1
  have U7:decide ((p1.i:Int) < ((p1.l.map dm).length:Int))=true:=by simpa using au
  have hr:=mN ht;have dF:=(fj nA).ok nA;have fM:=(bL dF (s:=[61]) aD).ok dF
  cases he:mX (d+1) (p1.name.2.aR [61]) with
  | none=>exact za3
  | some r =>
  obtain ⟨e,p2⟩:=r;rw [he] at h;cases h;have eY:=(gD fM he).ok fM;refine D ?_;refine zfH ?_;refine D ?_;refine V [0] (q6 p1 nA) ?_;refine zdJ ?_;refine V [] (jD 7 at_ p1.name.1 [e] _ rE) ?_;exact gi
 rw [ab h5] at h
 cases he:mX (d+1) p1 with
 | none=>exact za3
 | some r =>
 obtain ⟨e,p2⟩:=r;rw [he] at h;simp only at h;have eY:=(gD nA he).ok nA;have aaC:=eY.2
 have J1:(p1.code==0)=false\/((p1.code==0)=true/\p1.l.length<=p1.i)\/((p1.code==0)=true/\∃ tk,p1.l[p1.i]?=some tk/\((tk.kind==2)=false\/((tk.kind==2)=true/\(p1.sign 1==[61])=false))):=by
  by_cases hc:p1.code=0
  ·refine .inr ?_
   have dP:(p1.code==0)=true:=by simpa using hc
   cases ht:p1.l[p1.i]? with
   | none=>exact .inl ⟨dP,pS ht⟩
   | some tk =>
    refine .inr ⟨dP,tk,rfl,?_⟩
    by_cases hk:tk.kind=2
    ·refine .inr ⟨by simpa using hk,yw fun h61=>h5 ⟨hc,?_,h61⟩⟩;unfold RS.qZ;rw [ht];simpa using hk
    ·exact .inl zgy
  ·exact .inl zgx
 refine D ?_;refine GW.join (fun fr Γ=>fr=[.loc 0 0,.v (ii (d:Nat)),U,U,.loc 1 0,.v (ii at_),U,U,U,U,U,U,U,U,U,U,U,U,U,U,U,U,U,U,U,U,U,U,U,U,U,U,U,U,U,U,U,U,U,U,U,U,U,U,U,U,U,U,U,U,U,U,U,U,U,U,U,U,U,U,U,U,U,U,U,U,U,U,U,U,U,U,U,U,U,U,U,U,U,U,U,U,U,U,U,U,U,U,U,U,U,U,U,U,U,U,U,U,U,U,U,U,U,U,U,.v (.bool false),U,U,U,U,U,U,U,U,U,U,U,U,U,U,U,U,U,U,U,U,U,U,U,U,U,U,U,U,U,U,U,U,U,U,U,U,U,U,U,U,U,U,U,U,U,U,U,U,U,U,U,U,U,U,U,U,U,U,U,U,U,U,U,U,U]/\Γ=[bW p1,.box 86 zT]) ?_ ?_
 ·rcases J1 with dP | ⟨dP,kP⟩ | ⟨dP,tk,ht,hk | ⟨hk,kE⟩⟩
  ·exact zbp
  ·have U7:decide ((p1.i:Int) < ((p1.l.map dm).length:Int))=false:=by simpa using kP
   exact zbp
  ·have au:=(bB ht).1
   have U7:decide ((p1.i:Int) < ((p1.l.map dm).length:Int))=true:=by simpa using au
   have hr:=mN ht;exact zbp
  ·have au:=(bB ht).1
   have U7:decide ((p1.i:Int) < ((p1.l.map dm).length:Int))=true:=by simpa using au
   have hr:=mN ht;refine zfH ?_;exact bc ⟨_,_,Wk.aH (by repeat (first | exact wC.nil | refine wC.U ?_ | refine wC.eq rfl ?_ | refine wC.eq (by rw [kE]) ?_)),rfl,rfl⟩
 ·rintro _ _ ⟨rfl,rfl⟩;refine D ?_;refine V [0] (BG (d+1) _ e p2 nA X he) ?_
  by_cases k3:e.n.kind=3
  ·have k3':(e.n.kind==3)=true:=by simpa using k3
   by_cases ka:e.n.at_=at_
   ·have ka':(e.n.at_==at_)=true:=by simpa using ka
    by_cases ks:p2.sign 0=[61]
    ·have ks':(p2.sign 0==[61])=true:=by rw [ks];rfl
     rw [ah ⟨k3,ka,ks⟩] at h;have au:=(dH ks aD).1;have hn:=(dV ks aD).ok eY
     cases hk:e.kids with
     | nil=>rw [hk] at h;cases h
     | cons a rest =>
     cases hv:mX (d+1) p2.next with
     | none=>rw [hk,hv] at h;cases h
     | some r =>
     obtain ⟨v,p3⟩:=r;rw [hk,hv] at h;cases h;have Bp:=(gD hn hv).ok hn
     have hr:(ba (a::rest))[0]?=some (cT a):=by simp [ba,wa]
     refine D ?_;refine V [0] (dw p2 0 eY aD) ?_;refine V [0] (BG (d+1) _ v p3 hn X hv) ?_;refine V [0] (c9 p3 [59] Bp aD) ?_;refine aM (ax 0 9 (.a 9 (.a 10 (.a 11 .nil)))) ?_;refine zcg ?_;refine ou [] (jD 8 at_ e.n.s [a,v] _ rE) ?_;refine Lr ?_;refine aj ?_;exact ni
    ·have ks':(p2.sign 0==[61])=false:=yw ks;rw [ab (fun hh=>ks hh.2.2)] at h;cases h;refine D ?_;refine V [0] (dw p2 0 eY aD) ?_;exact zbv
   ·have ka':(e.n.at_==at_)=false:=by simpa using ka
    rw [ab (fun hh=>ka hh.2.1)] at h;cases h;refine D ?_;exact zbv
  ·have k3':(e.n.kind==3)=false:=by simpa using k3
   rw [ab (fun hh=>k3 hh.1)] at h;cases h;refine D ?_;exact zbv
theorem sds (f:Nat):Qv f:=by
 induction f using Nat.strongRecOn with
 | _ f ih =>
  cases f with
  | zero=>exact ⟨fun d p t q _ _ h=>by simp [mS] at h,fun d p t q _ _ h=>by simp [mS] at h,fun a d p t q _ _ _ h=>by simp [mS] at h⟩
  | succ f =>
   have C:=ih f (Nat.lt_succ_self f)
   have Cs:∀ f',f'<=f->Qv f':=fun f' h=>ih f' (Nat.lt_succ_of_le h)
   exact ⟨fun d p t q hp hd h=>X6 Cs d p t q hp hd h,fun d p t q hp hd h=>abk C d p t q hp hd h,fun a d p t q hp hl hd h=>Z0 C a d p t q hp hl hd h⟩
open Go.Xp (Nd Ar)
def aV (n:Nd):List GV:=[.v (ii n.kind),.v (ii n.at_),.v (ii n.n),.v (sv n.s),ints n.kids]
def aw (f:Go.Sp.Fn):List GV:=[.v (sv f.name),strs f.params,.v (ii f.body)]
def bg (a:Ar):List GV:=[.v (sv a.name),.v (ii a.size)]
abbrev aq (p:Src):List GV:=[strs p.globals,.sl 2 (p.arrays.map bg),.sl 3 (p.fns.map aw),.sl 5 (p.nodes.map aV)]
theorem LW (k:Int):GF prog 82 [.v (ii k)] [] (.v (.bool (qi k))) []:=by
 unfold qi;refine dh func82 ntmps82 ?_
 cases h:decide ((1:Int)<=k)
 all_goals
  exact ay
theorem LX (k:Int):GF prog 288 [.v (ii k)] [] (.v (.bool (kl k))) []:=by
 unfold kl;refine dh func288 ntmps288 ?_
 cases h:decide ((7:Int)<=k)
 all_goals
  exact ay
theorem w9 (s:ae):GF prog 287 [.v (sv s)] [] (.v (.bool (jc s))) []:=by
 refine ai func287 ntmps287 ?_;refine V [] lB ?_;refine GW.range (levels.map fun l=>[strs l]).length (fun k fr Γ=>fr=[.v (sv s),U,U,U,U,.sl 1 (levels.map fun l=>[strs l]),.v (ii ((levels.map fun l=>[strs l]).length:Int)),.v (ii (k:Nat)),U,U,U,U,U,U,U]/\Γ=[]/\((levels.take k).any fun l=>l.contains s)=false) ?_ aD ?_ ?_ ?_
 ·exact lN
 ·exact jn
 ·rintro k _ _ hk ⟨rfl,rfl,hf⟩
  have hk:k < levels.length:=by simpa using hk
  have hx:levels[k]?=some levels[k]:=by simp [hk]
  have hr:(levels.map fun l=>[strs l])[k]?=some [strs levels[k]]:=by simp [hk]
  have C6:levels[k].length<=1099511627776:=by
   have:∀ l∈levels,l.length<=1099511627776:=by decide
   exact this _ (getElem_mem hk)
  generalize levels[k]=x at *;have hh:=lh x s C6
  cases hb:x.contains s with
  | true =>
   rw [hb] at hh
   have ha:jc s=true:=by
    unfold jc;rw [sw];exact ⟨x,bo hx,hb⟩
   refine D ?_;refine V [] hh ?_;refine bY ?_;rw [ha];exact zah
  | false =>
   rw [hb] at hh;refine D ?_;refine V [] hh ?_;exact ⟨rfl,rfl,_,_,Wk.aH ao,rfl,rfl,by rw [dk,hx,List.any_append,hf];simp only [Option.toList,List.any_cons,List.any_nil,hb];rfl⟩
 ·rintro _ _ ⟨rfl,rfl,hf⟩
  have hf:jc s=false:=by
   rw [n7 zf8] at hf;exact hf
  refine zdh ?_;rw [hf];exact zah
theorem dB {l:List T} {i:Nat} {t:T} (h:l[i]?=some t):(ba l)[i]?=some (cT t):=by
 induction l generalizing i with
 | nil=>simp at h
 | cons a l ih =>
  cases i with
  | zero=>cases h;simp [ba,wa]
  | succ i=>simpa [ba] using ih zgc
theorem gO (t:T) (m:Nat) (hl:t.kids.length<=1099511627776):GF prog 286 [.agg (cT t),.v (ii (m:Nat))] [] (.v (.bool (bP m 0 t.kids))) []:=by
 refine ai func286 ntmps286 ?_;refine GW.range (ba t.kids).length (fun k fr Γ=>fr=[U,.v (ii (m:Nat)),U,U,U,U,U,U,.sl 6 (ba t.kids),.v (ii ((ba t.kids).length:Int)),.v (ii (k:Nat)),U,U,U,U,U,U,U,U,U,U,U,U,U,U,U,U,U,U,U,U,U,U,U,U,U,U]/\Γ=[]/\bP m k (t.kids.drop k)=bP m 0 t.kids) ?_ (by rw [bh];exact hl) ?_ ?_ ?_
 ·exact ⟨_,_,(Wk.cut (n:=0) (aI _) rfl).trans (Wk.aH ao),rfl,rfl,rfl⟩
 ·exact jn
 ·rintro k _ _ hk ⟨rfl,rfl,hf⟩
  have hk:k < t.kids.length:=by rw [bh] at hk;exact hk
  have hx:t.kids[k]?=some t.kids[k]:=by simp [hk]
  have hr:=dB hx;rw [n5 hk,bP] at hf;generalize t.kids[k]=x at *;have he:=LW x.n.kind
  by_cases hm:k < m
  ·have R6:decide ((k:Int) < (m:Int))=true:=by simpa using hm
   have py:decide ((m:Int)<=(k:Int))=false:=by simpa using hm
   rw [ah hm] at hf
   cases hb:qi x.n.kind with
   | true =>
    rw [hb] at he hf;refine zbX ?_;exact zdr
   | false =>
    rw [hb] at he hf;refine zbX ?_;refine bY ?_;rw [<-hf];exact zah
  ·have R6:decide ((k:Int) < (m:Int))=false:=by simp;omega
   have py:decide ((m:Int)<=(k:Int))=true:=by simp;omega
   rw [ab hm] at hf
   cases hb:(x.n.kind==14) with
   | true =>
    rw [hb] at hf
    have bG:(x.n.kind != 14)=false:=by simp only [bne,hb];rfl
    refine D ?_;exact zdr
   | false =>
    rw [hb] at hf
    have bG:(x.n.kind != 14)=true:=by simp only [bne,hb];rfl
    refine zdh ?_;rw [<-hf];exact zah
 ·rintro _ _ ⟨rfl,rfl,hf⟩;rw [bh,List.drop_length,bP] at hf;refine zdh ?_;rw [<-hf];exact zah
theorem iv {l:List Nd} {i:Nat} {n:Nd} (h:l[i]?=some n):(l.map aV)[i]?=some (aV n):=by rw [bp,h];rfl
theorem pd {l:List Int} {i:Nat} {n:Int} (h:l[i]?=some n):(l.map fun i=>[GV.v (ii i)])[i]?=some [.v (ii n)]:=by rw [bp,h];rfl
theorem Iw (p:Src) (hk:∀ n∈p.nodes,n.kids.length<=1000000000000):∀ (f a:Nat) (t:T),sub p.nodes f a=some t->GF prog 84 [.agg (aq p),.v (ii (a:Nat))] [] (.agg (cT t)) []:=by
 intro f
 induction f using Nat.strongRecOn with
 | _ f ih =>
 intro a t h
 cases f with
 | zero=>simp [sub] at h
 | succ f =>
 rw [sub] at h
 cases hn:p.nodes[a]? with
 | none=>exact zeh
 | some n =>
 rw [hn] at h;simp only at h
 cases hs:rQ p.nodes f n.kids [] with
 | none=>rw [hs] at h;cases h
 | some l =>
 rw [hs] at h;cases h;have hr:=iv hn;have eh:=hk n (bo hn);refine ai func84 ntmps84 ?_;refine GW.wk (Wk.Ks (i:=2) (o:=5) 86 6 rfl rfl) ?_
 refine GW.range (n.kids.map fun i=>[GV.v (ii i)]).length (fun k fr Γ=>∃ rows acc g,fr=[U,.v (ii (a:Nat)),.loc 0 0,U,.loc 1 0,.loc 2 0,U,U,U,U,U,U,U,U,U,U,U,U,U,ints n.kids,.v (ii ((n.kids.map fun i=>[GV.v (ii i)]).length:Int)),.v (ii (k:Nat)),U,U,U,U,U,U,U,U,U,U,U,U,U] /\
   Γ=[.box 28 (aq p),.box 86 zT,.box 86 [.v (ii n.kind),.v (ii n.at_),.v (ii n.n),.v (sv n.s),ints n.kids,.vec 3 k],.vec 86 6 0 rows] /\
   rows.length=k/\rows=ba acc/\g<=f/\rQ p.nodes g (n.kids.drop k) acc=some l) ?_ zgD ?_ ?_ ?_
 ·exact ⟨_,_,Wk.aH ao,[],[],f,rfl,rfl,rfl,rfl,aI _,hs⟩
 ·rintro k _ _ ⟨_,_,_,rfl,rfl,_⟩;exact dr
 ·rintro k _ _ au ⟨rows,acc,g,rfl,rfl,r6,bD,hg,h⟩
  have au:k < n.kids.length:=by simpa using au
  have hx:n.kids[k]?=some n.kids[k]:=by simp [au]
  rw [n5 au] at h;generalize n.kids[k]=x at *
  cases g with
  | zero=>simp [rQ] at h
  | succ g =>
  rw [rQ] at h
  by_cases qg:x < 0
  ·rw [ah qg] at h;cases h
  rw [ab qg] at h
  cases b6:sub p.nodes g x.toNat with
  | none=>rw [b6] at h;cases h
  | some t =>
  rw [b6] at h;simp only at h;have Cr:=ih g X x.toNat t b6;rw [Int.toNat_of_nonneg X] at Cr;have sV:=pd hx;refine D ?_;refine aM (ax 0 4 (.a 4 (.a 5 (.a 6 (.q 7 (.a 8 .nil)))))) ?_;refine aj ?_;refine aC [] Cr ?_;refine zat ?_;refine wu ?_;refine bm ?_;exact ⟨rfl,rfl,_,_,Wk.aH ao,_,acc++[t],g,rfl,rfl,by rw [aL,r6];rfl,by rw [xD,bD];rfl,by omega,h⟩
 ·rintro _ _ ⟨rows,acc,g,rfl,rfl,r6,bD,hg,h⟩;rw [bM,List.drop_length] at h
  have mD:acc=l:=by cases g <;> (rw [rQ] at h;cases h;rfl)
  subst mD;subst bD;refine bc (GW.wk (Wk.Au (i:=2) (o:=5) rfl rfl rfl rfl r6) ?_);exact ni
end Go.Xg
namespace Go.Xg
open Go.RowKit Go.Xw Go.Proofs Go.WideShapes Go.Deep
def flat (v:Value):Prop:=∀ a n c,v≠.slice a n c
def Ul (W:World) (v:Value) (xs:List Value):Prop:=∃ a c,v=.slice a xs.length c/\(xs=[]\/∃ b o,a=some ⟨b,o,none⟩/\xs.length<=c/\∀ i x,xs[i]?=some x->jQ W.heap b (o+i)=some x/\flat x)
open Classical in
noncomputable def KW (W:World):Fz:=fun b o=>match jQ W.heap b o with
 | none=>none
 | some v=>if ∃ a n c,v=.slice a n c then (if h:∃ xs,Ul W v xs then some (.sl 1 (h.choose.map fun x=>[.v x])) else none) else some (.v v)
theorem Fu {W:World} {b o:Nat} {v:Value} (h:jQ W.heap b o=some v) (hf:flat v):KW W b o=some (.v v):=by
 unfold KW;rw [h];simp only;rw [if_neg (by rintro ⟨a,n,c,e⟩;exact hf a n c e)]
theorem Tk {W:World} {v:Value} {xs:List Value} (hx:Ul W v xs) (β:Bt):Rel (KW W) β v (.sl 1 (xs.map fun x=>[GV.v x])):=by
 obtain ⟨a,c,rfl,h⟩:=hx
 rcases h with rfl | ⟨b,o,rfl,hc,tI⟩
 ·exact .sl0 a c 1
 ·have:=Rel.sl (K:=KW W) (β:=β) b o c 1 (xs.map fun x=>[GV.v x]) (fun i r hr=>by
   rw [List.getElem?_map] at hr
   cases hi:xs[i]? with
   | none=>rw [hi] at hr;cases hr
   | some x =>
    rw [hi] at hr;cases hr;obtain ⟨I,G⟩:=tI i x hi;refine ⟨rfl,fun j g hg=>?_⟩
    cases j with
    | zero=>cases hg;rw [Nat.mul_one,Nat.add_zero];exact Fu I G
    | succ j=>simp at hg) (by rw [List.length_map];exact hc)
  rw [List.length_map] at this;exact this
theorem abA (W:World):oI (KW W) W:=fun b o g h=>by
 unfold KW at h
 cases hc:jQ W.heap b o with
 | none=>rw [hc] at h;cases h
 | some v =>
  rw [hc] at h;simp only at h;split at h
  ·split at h
   ·rename_i hex;cases h;exact ⟨rfl,v,rfl,Tk hex.choose_spec _⟩
   ·cases h
  ·cases h;exact ⟨rfl,v,rfl,.v v⟩
theorem UB {W:World} {a:Addr} {n:Nat} {v:Value} (h:W.cell? (a.add n)=some v):jQ W.heap a.block (a.off+n)=some v:=by
 unfold Addr.add at h;split at h
 ·rename_i h0;subst h0;obtain ⟨b,o,s⟩:=a;have hs:=World.cell?_spot h;simp only at hs;subst hs;rw [gU] at h;exact h
 ·obtain ⟨b,o,s⟩:=a;simp only at h;rw [gU] at h;exact h
theorem Uv {W:World} {a:Addr} {v:Value} (h:W.cell? (a.add 0)=some v):a.spot=none:=by
 have:=World.cell?_spot h;unfold Addr.add at this;rw [if_pos rfl] at this;exact this
theorem CR {α:Type} {Q:Nat->α->Prop}:∀ {n:Nat},(∀ i,i < n->∃ x,Q i x)->∃ l:List α,l.length=n/\∀ i x,l[i]?=some x->Q i x
 | 0,_=>⟨[],rfl,fun i x h=>by simp at h⟩
 | n+1,h=>by
  obtain ⟨l,I,G⟩:=CR (n:=n) fun i hi=>h i X
  obtain ⟨x,hx⟩:=h n X;refine ⟨l++[x],by simp [I],fun i y hi=>?_⟩
  by_cases ue:i < n
  ·rw [List.getElem?_append_left X] at hi;exact G i y hi
  ·have au:=(List.getElem?_eq_some_iff.1 hi).1;rw [length_append,length_cons,length_nil] at au
   have:i=n:=by omega
   subst this;rw [List.getElem?_append_right X,I,Nat.sub_self] at hi
   cases hi;exact hx
theorem max_le {n:Nat} (h:n<=maxLen):n<=9223372036854775807:=by unfold maxLen at h;omega
section
variable {H:Type} {enc:TypeId × Value->H} {P:Program} {W:World}
end
section
variable {H:Type} {enc:TypeId × Value->H} {W:World}
end
end Go.Xg
namespace Go.Xg
open Go.RowKit Go.Xw Go.Proofs Go.Lib
theorem TA {P:Program} {W:World} {name:String} {k:IntKind} {zs:List Int} {g:Nat} {t e:TypeId} {n:Nat}
  (hg:P.globalNamed name=some g) (hty:(P.globals[g]?).map (·.type)=some t) (ht:P.underlying t=some (.array n e)) (he:P.underlying e=some (.int k)) (RT:P.cellsOf e=1) (hct:P.cellsOf t=n)
  (h:VarReads P W name (tabData k zs)):TabIs P W name k zs:=by
 obtain ⟨g',t',cs,fuel,p,nw,Bw,adH,hd⟩:=h;obtain rfl:=Option.some.inj (hg.symm.trans nw);obtain rfl:=Option.some.inj (hty.symm.trans Bw);unfold TabIs;rw [adH,<-cells_of_tab ht he RT hct hd]
theorem Oa {P:Program} {W:World} {name:String} {k:IntKind} {zs:List Int} {g n:Nat} (hg:P.globalNamed name=some g) (hn:zs.length=n) (h:TabIs P W name k zs):wB W g n:=by
 unfold TabIs World.var? at h;rw [hg] at h;simp only [Option.bind_some] at h
 cases hb:W.heap[g]? with
 | none=>exact zba
 | some o =>
  rw [hb] at h
  cases o with
  | cells cs E z =>
   simp only [Option.some.injEq] at h;exact ⟨cs,E,z,hb,by rw [h];simpa using hn⟩
  | _=>cases h
theorem Qr {P:Program} {W:World} {name:String} {k:IntKind} {zs:List Int} {g:Nat} (hg:P.globalNamed name=some g) (h:TabIs P W name k zs) {o:Nat} {z:Int} (ho:zs[o]?=some z):KW W g o=some (.v (.int k z)):=by
 have au:=(List.getElem?_eq_some_iff.1 ho).1;have hc:=h.cell hg o au;rw [List.getD_eq_getElem?_getD,ho,gU] at hc
 exact Fu hc fun a n c e=>by cases e
theorem Gs {W:World} (hp:VarReads Tryz.prog W "internal/strconv.uint64pow10" (tabData .u64 ze)) (hs:VarReads Tryz.prog W "strings.asciiSpace" (tabData .u8 zj)) (hW:W.ShapedOpen Tryz.prog):kY (KW W) (fun _=>.no) W:=by
 have gp:Tryz.prog.globalNamed "internal/strconv.uint64pow10" = some 1:=by kernel_rfl
 have gs:Tryz.prog.globalNamed "strings.asciiSpace" = some 2:=by kernel_rfl
 have tp:=TA gp (t:=254) (by kernel_rfl) Tryz.underlying254 (k:=.u64) (by kernel_rfl) (by kernel_rfl) (by kernel_rfl) hp;have ts:=TA gs (t:=257) (by kernel_rfl) Tryz.underlying257 (k:=.u8) (by kernel_rfl) (by kernel_rfl) (by kernel_rfl) hs;obtain ⟨m,hm⟩:=cell_of_shapedOpen_int (g:=0) (zero:=#[.int .i64 0]) (t:=3) hW (of_decide_eq_true (by kernel_rfl)) (by kernel_rfl) rfl (by kernel_rfl) (by kernel_rfl) Tryz.underlying3;rw [gU] at hm;refine ⟨⟨m,fun b o g h=>?_⟩,Oa gp aD tp,Oa gs aD ts,fun i b h=>by cases h⟩;unfold AQ at h;split at h
 ·rename_i hb;subst hb;split at h
  ·cases h;exact Fu hm fun a n c e=>by cases e
  ·cases h
 ·split at h
  ·rename_i hb;subst hb
   cases ho:ze[o]? with
   | none=>rw [ho] at h;cases h
   | some z=>rw [ho] at h;cases h;exact Qr gp tp ho
  ·split at h
   ·rename_i hb;subst hb
    cases ho:zj[o]? with
    | none=>rw [ho] at h;cases h
    | some z=>rw [ho] at h;cases h;exact Qr gs ts ho
   ·cases h
theorem GF.calls {P:Program} {f:FuncId} {gs:List GV} {g:GV} (h:GF P f gs [] g []) {W:World} {vs:List Value} (hv:bC (KW W) (fun _=>.no) vs gs) (hT:kY (KW W) (fun _=>.no) W) :
  pV P f vs W fun v w'=>Below W.heap.size W w'/\∃ K β,Rel K β v g:=by
 have hI:Inv ⟨W,iI,KW W,fun _=>.no,0⟩ (KW W) (fun _=>.no) [] W :=
  ⟨Ext.refl W,df.refl _,eg.refl _,fun _ _=>rfl,abA W,fun i x h=>by simp at h,fun _ _=>rfl,fun i j b h=>zgg,fun i b h=>zgg,fun b o g h=>.inl h,hT⟩
 refine (h ⟨W,iI,KW W,fun _=>.no,0⟩ (KW W) (fun _=>.no) W vs rfl hI hv).mono ?_;rintro v w' ⟨K',b9,x,aZ,I,G,rfl,rfl⟩;exact ⟨I.ext.below,K',b9,G⟩
end Go.Xg
namespace Go.Xg
open Go.RowKit Go.Xw
theorem iH (n:Int):bits .and .i64 n 4294967295=n % 4294967296:=by
 have h:(BitVec.ofInt 64 4294967295).toNat=2 ^ 32 - 1:=by decide
 have key:(BitVec.ofInt 64 n &&& BitVec.ofInt 64 4294967295).toNat=(n % ((2 ^ 64:Nat):Int)).toNat % 2 ^ 32:=by
  rw [BitVec.toNat_and,BitVec.toNat_ofInt,h,Nat.and_two_pow_sub_one_eq_mod]
 show IntKind.i64.wrap ((BitVec.ofInt 64 n &&& BitVec.ofInt 64 4294967295).toNat:Nat)=n % 4294967296;rw [key,IntKind.wrap_i64];omega
section
variable {P:Program} {fr:List GV} {Γ:List Ob}
theorem YG.iH {x y:Operand} {t t':TypeId} {a:Int} (hx:bq fr x=.v (ii a)) (hy:bq fr y=.v (ii 4294967295)):YG P (.binOp .and t x y t') fr Γ (.v (ii (a % 4294967296))) :=
 YG.v2 hx hy fun l w h k d ty pos af=>by
  simp [execOp,eqGuard,h,k,binOp,intBits_and,Go.Xg.iH]
end
end Go.Xg
namespace Go.Xw
open Go.RowKit
class GG (P:Program) (t:TypeId) (e:outParam TypeId):Prop where
 is:P.underlying t=some (.slice e)/\∃ i,P.info? e=some i/\i.zero=some (.int .u8 0)/\i.size=1/\i.bytes=1
def Ww (P:Program) (t e:TypeId):Bool :=
 (match P.underlying t with | some (.slice e')=>e'==e | _=>false)&&(match P.info? e with | some i=>(match i.zero with | some (.int .u8 0)=>true | _=>false)&&i.size==1&&i.bytes==1 | none=>false)
theorem GG.mk' {P:Program} {t e:TypeId} (h:Ww P t e=true):GG P t e:=by
 unfold Ww at h;rw [aK] at h;obtain ⟨I,G⟩:=h;refine ⟨?_,?_⟩
 ·split at I
  ·rename_i e' hu;rw [hu];simp at I;rw [I]
  ·cases I
 ·split at G
  ·rename_i i hi;simp only [aK,beq_iff_eq] at G;obtain ⟨⟨h4,h5⟩,h6⟩:=G;split at h4
   ·rename_i hz;exact ⟨i,hi,hz,h5,h6⟩
   ·cases h4
  ·cases G
section
variable {P:Program} {Q:oJ} {l:List Value} {w:World} {ops:Array Oper} {rest:List Oper} {d:Option Tmp} {ty:TypeId} {pos:String} {af:Array Edge}
def nN (s:ae):List Value:=s.map fun c=>.int .u8 (c.toNat:Int)
theorem WL.FA {s x:Operand} {t u e:Nat} [hT:GG P t e] [hU:tw P u] {base n:Nat} {xs:List Value} {v:Value} {str:ae} (hs:ev l s=v) (gT:jH w base e 1 v n xs) (hx:ev l x=sv str)
  (Bg:n+str.length<=140737488355328) (Ep:base<=w.heap.size)
  (h:∀ v' w',jH w' base e 1 v' (n+str.length) (xs++nN str)->Ext (fun b=>v.ownBlock=some b) w w'->(∀ b,v'.ownBlock=some b->v.ownBlock=some b\/w.heap.size<=b)->(Ext iI w w'\/v'.ownBlock=v.ownBlock)->WL P ops Q rest (put l d v') w') :
  WL P ops Q (⟨d,.call ⟨.builtin .append,#[s,x],#[t,u]⟩,ty,pos,af,none⟩::rest) l w:=by
 obtain ⟨hu,i,hi,hz,dj,Et⟩:=hT.is;have iP:=hU.und
 have sW:(⟨str.toArray⟩:ByteArray).size=str.length:=by simp [ByteArray.size]
 have jL:Lib.strCells ⟨str.toArray⟩=nN str:=by simp [Lib.strCells,nN]
 obtain ⟨v',w',hr,G,h3,h4⟩:=Lib.run_append_own_string (P:=P) w base t u ty e i hu iP hi hz dj Et v n xs gT ⟨str.toArray⟩ (by rw [sW];simp only [maxLen];omega) zgB Ep;rw [sW,jL] at G;rw [sW] at h4;have lf:Ext (fun b=>v.ownBlock=some b) w w':=⟨h3.os,h3.tape,h3.output,h3.size,fun j hj hn=>h3.block j hj fun he=>hn he.symm⟩;have qy:(Builtin.append_ #[t,u] ty #[v,sv str]).run P w=.ok v' w':=hr;refine WL.val (v:=v') (w':=w') (by simp [execOp,resolve,invoke,builtin,hs,hx,qy]) (h v' w' G lf ?_ ?_)
 ·intro b' bG
  rcases gT.2 with ⟨rfl,rfl⟩ | ⟨g,cap,cur,rfl,qU,hg,ui,CW,jL,EH⟩
  ·by_cases hm:str.length=0
   ·have:=h4.2 ⟨rfl,hm⟩;subst this;cases bG
   ·have eR:=run_append_nil_string (P:=P) w t u ty e i (.int .u8 0) hu iP hi hz ⟨str.toArray⟩ zgb zgB (by rw [Et,sW];omega);rw [hr] at eR;cases eR;exact zbi
  ·by_cases hroom:n+str.length<=cap
   ·have aat:cur.size=cap:=by simpa using jL
    have eR:=Lib.run_append_room_string (P:=P) w t u ty e i hu iP hi dj g n cap cur hg ⟨str.toArray⟩ (by rw [sW];exact hroom) zgB;rw [hr] at eR;cases eR;exact .inl bG
   ·have holds:∀ j u,xs[j]?=some u->w.cell? ((⟨g,0,none⟩:Addr).add j)=some u:=World.ownsRow.cells (g:=g) gT rfl;have eR:=Lib.run_append_grow_string (P:=P) w t u ty e i (.int .u8 0) hu iP hi hz ⟨g,0,none⟩ n cap xs zgR holds ⟨str.toArray⟩ zgB zgB zha;rw [hr] at eR;cases eR;exact zbi
 ·rcases gT.2 with ⟨rfl,rfl⟩ | ⟨g,cap,cur,rfl,qU,hg,ui,CW,jL,EH⟩
  ·exact .inl (lf.mono fun k _ hk=>by cases hk)
  ·by_cases hroom:n+str.length<=cap
   ·have aat:cur.size=cap:=by simpa using jL
    have eR:=Lib.run_append_room_string (P:=P) w t u ty e i hu iP hi dj g n cap cur hg ⟨str.toArray⟩ (by rw [sW];exact hroom) zgB;rw [hr] at eR;cases eR;exact zbB
   ·have holds:∀ j u,xs[j]?=some u->w.cell? ((⟨g,0,none⟩:Addr).add j)=some u:=World.ownsRow.cells (g:=g) gT rfl;have eR:=Lib.run_append_grow_string (P:=P) w t u ty e i (.int .u8 0) hu iP hi hz ⟨g,0,none⟩ n cap xs zgR holds ⟨str.toArray⟩ zgB zgB zha;rw [hr] at eR;cases eR;exact zdu
theorem R.jz {x:Operand} {s:TypeId} {i off:Nat} [hT:gq P s i off 1 false] {vs:List Value} {v:Value} (hx:ev l x=.agg vs.toArray) (hv:vs[off]?=some v):fP P l w (.field s x i) v:=fun d ty pos af=>by
 obtain ⟨hT⟩:=hT;unfold OW at hT;split at hT
 ·rename_i fs hu;split at hT
  ·rename_i f hf;simp only [aK,beq_iff_eq,bne_iff_ne,ne_eq] at hT;obtain ⟨⟨⟨I,G⟩,h3⟩,h4⟩:=hT
   have hag:(isAgg f.type).run P w=.ok false w:=by
    cases hd:P.underlying f.type with
    | none=>simp [hd] at h4
    | some d =>
     rw [hd] at h4;unfold isAgg;rw [Sem.run_bind,run_underlying hd w]
     cases d <;> simp_all [B5]
   have EI:vs.toArray[f.offset]?=some v:=by rw [I];simpa using hv
   have hv2:vs[f.offset]?=some v:=by rw [I];exact hv
   simp [execOp,Instr.field,hx,run_underlying hu,hf,part,asAgg,hag,EI,hv2]
  ·cases hT
 ·cases hT
end
end Go.Xw
namespace Go.Xg
open Go.RowKit Go.Xw
open GV (U)
section
variable {P:Program} {m:Nat} {Q:eC} {fr:List GV} {Γ:List Ob} {ops:Array Oper} {rest:List Oper} {d:Option Tmp} {op:Op} {ty:TypeId} {pos:String} {af:Array Edge}
theorem YG.jz {x:Operand} {s:TypeId} {i off:Nat} [hT:gq P s i off 1 false] {cs:List GV} {g:GV} (hx:bq fr x=.agg cs) (hg:cs[off]?=some g):YG P (.field s x i) fr Γ g:=fun B K β w l hI hF=>by
 have h:=hF.ev x;rw [hx] at h;generalize hv:ev l x=v at h
 cases h with
 | agg vs _ hl h =>
  have hi:off < vs.length:=by rw [hl];exact (bB hg).1
  exact ⟨vs[off],R.jz hv zgT,h off _ g zgT hg⟩
abbrev bN (s:ae):List (List GV):=s.map fun c=>[.v (.int .u8 (c.toNat:Int))]
theorem GL.FA {s x:Operand} {t u e:Nat} [hT:GG P t e] [hU:tw P u] {i n fz:Nat} {rows:List (List GV)} {str:ae} (hx:bq fr x=.v (sv str)) (hs:bq fr s=.vec i n) (bH:Γ[i]?=some (.vec e 1 fz rows)) (hn:rows.length=n) (cj:str.isEmpty=false)
  (hb:n+str.length<=140737488355328)
  (h:GL P m ops Q rest (bR fr d (.vec i (n+str.length))) (oset Γ i (.vec e 1 fz (rows++bN str)))) :
  GL P m ops Q (⟨d,.call ⟨.builtin .append,#[s,x],#[t,u]⟩,ty,pos,af,none⟩::rest) fr Γ:=fun B K β w l hm hI hF=>by
 subst hn
 have cj:str≠[]:=by intro h0;rw [h0] at cj;cases cj
 obtain ⟨h0,xs,o1,o2,o3,o4,o5,o6⟩:=hI.ob i _ bH;have wZ:=hF.ev s;rw [hs] at wZ
 have uo:ev l s=h0:=by
  generalize hv:ev l s=v at wZ
  cases wZ with
  | vec _ _ a c hh =>
   obtain ⟨h',m',e1,e2,e3⟩:=hh;rw [o1] at e1;cases e1;exact e3 rfl
 have ki:(bN str).flatten=str.map fun c=>GV.v (.int .u8 (c.toNat:Int)):=by
  unfold bN;clear hx cj hb h;generalize str=s
  induction s with
  | nil=>rfl
  | cons c r ih=>exact zd4
 have hlen:(bN str).length=str.length:=by simp [bN]
 refine WL.FA (base:=0) (v:=h0) (n:=rows.length) (xs:=xs) (str:=str) uo o2 (hF.lq hx) hb (aS _) ?_;intro v' w' how lf sS yT
 obtain ⟨K',hK,nW,bE⟩:=hI.grow bH o1 ⟨o2,o3⟩ (news:=bN str) (ns:=nN str) (by rw [hlen];exact how) lf sS (by rw [ki];exact (by
   have:(str.map fun c=>GV.v (.int .u8 (c.toNat:Int)))=rK (nN str):=by simp [rK,nN]
   rw [this];exact bC.self)) (fun r hr=>by
   simp only [bN,vb] at hr;obtain ⟨c,_,rfl⟩:=hr
   exact ⟨rfl,fun g hg=>by rw [List.mem_singleton] at hg;subst hg;rfl⟩) (by intro h0;exact cj (List.map_eq_nil_iff.1 h0)) (fun b bG o v ho hv=>by
  rcases yT with h7 | h7
  ·exact h7.c hv (fun h=>h)
  ·have kR:o < xs.length:=by rw [o2.1];exact AA ho (ua 1 o6)
   obtain ⟨b2,c2,oU,_,_,mu⟩:=o2.cells.2 (by intro h0;rw [h0] at kR;simp at kR)
   have eM:b2=b:=by rw [oU] at bG;cases bG;rfl
   subst eM;have Hq:=mu o xs[o] (by simp [kR]);rw [gU,hv] at Hq;cases Hq;obtain ⟨b3,c3,RU,_,_,RR⟩:=how.cells.2 (by intro h0;have:xs=[]:=(List.append_eq_nil_iff.1 h0).1;rw [this] at kR;simp at kR)
   have wM:b3=b2:=by rw [RU,bG] at h7;cases h7;rfl
   subst wM
   rw [<-gU];exact RR o _ zg5)
 rw [<-bQ] at bE;refine h B K' _ w' _ hm bE ((hF.mono hK nW).put d ?_);obtain ⟨a,c,rfl⟩:=how.shape;exact .vec i _ a c ⟨_,_,bI,by simp [hlen],fun _=>by simp [hlen]⟩
end
theorem GF.lib {P:Program} {f:FuncId} {vs:List Value} {v:Value} (h:∀ K β w,kY K β w->oI K w->pV P f vs w fun x w'=>x=v/\Ext iI w w'):GF P f (vs.map GV.v) [] (.v v) []:=fun B K β w us hm hI hF=>by
 have hv:us=vs:=by
  obtain ⟨I,G⟩:=hF;apply ext_getElem
  ·simpa using I
  ·intro i h3 h4;have:=G i us[i] (.v vs[i]) (by simp [h3]) (by simp [h4]);exact Rel.eJ this
 subst hv
 exact (h K β w hI.tab hI.fz).mono fun x w' ⟨I,G⟩=>⟨K,β,.v v,[],hI.same G,by rw [I];exact .v _,rfl,rfl⟩
theorem kY.cell {K:Fz} {β:Bt} {w:World} (h:kY K β w) (hf:oI K w) {b o:Nat} {x:Value} (hk:∀ m,AQ m b o=some (.v x)):jQ w.heap b o=some x:=by
 obtain ⟨m,h⟩:=h.le;obtain ⟨_,v,hv,hr⟩:=hf b o _ (h b o _ (hk m));rw [hv,Rel.eJ hr]
theorem kY.maxLen {K:Fz} {β:Bt} {w:World} (h:kY K β w) (hf:oI K w):∃ m,w.cell? ⟨0,0,none⟩=some (.int .i64 m):=by
 obtain ⟨m,h⟩:=h.le
 have hk:AQ m 0 0=some (.v (.int .i64 m)):=by simp [AQ]
 obtain ⟨_,v,hv,hr⟩:=hf _ _ _ (h _ _ _ hk);exact ⟨m,by rw [gU,hv,Rel.eJ hr]⟩
theorem wB.all {K:Fz} {β:Bt} {w:World} (h:kY K β w) (hf:oI K w) {b n:Nat} {zs:List Value} (hb:wB w b n) (hn:zs.length=n) (hk:∀ m o x,zs[o]?=some x->AQ m b o=some (.v x)):∃ E z,w.heap[b]?=some (.cells zs.toArray E z):=by
 obtain ⟨cs,E,z,I,G⟩:=hb;refine ⟨E,z,?_⟩
 have:cs=zs.toArray:=by
  apply Array.ext
  ·simp [G,hn]
  ·intro i hi rZ
   have hx:zs[i]?=some zs.toArray[i]:=by simp
   have h3:=h.cell hf (b:=b) (o:=i) (fun m=>hk m i _ hx)
   have h4:jQ w.heap b i=cs[i]?:=by rw [<-gU,cell_of_row w b i cs E z I]
   rw [h4] at h3;simpa [hi] using h3
 rw [I,this]
theorem GF.adO {P:Program} {f:FuncId} {vs us:List Value} {E:TypeId} (h:∀ K β w,kY K β w->oI K w->pV P f vs w fun x w'=>x=.slice (some ⟨w.heap.size,0,none⟩) us.length us.length/\w'=w.alloc (.cells us.toArray E)):GF P f (vs.map GV.v) [] (.sl 1 (us.map fun u=>[.v u])) []:=fun B K β w ws hm hI hF=>by
 have hv:ws=vs:=by
  obtain ⟨I,G⟩:=hF;apply ext_getElem
  ·simpa using I
  ·intro i h3 h4;have:=G i ws[i] (.v vs[i]) (by simp [h3]) (by simp [h4]);exact Rel.eJ this
 subst hv
 refine (h K β w hI.tab hI.fz).mono fun x w' ⟨I,G⟩=>?_
 subst I;subst G;have hn:=yn.of w (.cells us.toArray E);obtain ⟨hle,bE⟩:=hI.xE hn (cs:=us.map .v) bC.self (fun g hg=>by obtain ⟨u,_,rfl⟩:=vb.1 hg;rfl);refine ⟨_,β,.sl 1 (us.map fun u=>[.v u]),[],bE,?_,rfl,rfl⟩;have:=Rel.sl (K:=oc K w.heap.size (us.map .v)) (β:=β) w.heap.size 0 us.length 1 (us.map fun u=>[.v u]) (fun i r hr=>?_) zf8
 ·rw [bM] at this;exact this
 ·rw [bp] at hr
  cases hu:us[i]? with
  | none=>rw [hu] at hr;cases hr
  | some u =>
   rw [hu] at hr;cases hr;refine ⟨rfl,fun j g hg=>?_⟩
   cases j with
   | zero=>cases hg;rw [dJ,Nat.mul_one,Nat.add_zero];exact yr (by rw [bp,hu];rfl)
   | succ j=>simp at hg
section
variable {B:Bs} {K:Fz} {β:Bt} {Γ:List Ob} {w:World}
theorem Inv.swap {i:Nat} {y:Ob} (h:Inv B K β Γ w) (ho:mz K β w i y):Inv B K β (oset Γ i y) w:=by
 refine ⟨h.ext,h.kle,h.ble,h.loc,h.fz,fun j x hj=>?_,fun j hj=>h.out j zg9,h.dis,h.own,h.kn,h.tab⟩;rw [bQ,fb] at hj;split at hj
 ·rename_i fy;split at hj
  ·cases hj;subst fy;exact ho
  ·cases hj
 ·exact h.ob j x hj
theorem Inv.BX {i E k:Nat} {rows:List (List GV)} {x:Value} (h:Inv B K β Γ w) (hi:Γ[i]?=some (.vech E k rows x)):Inv B K β (oset Γ i (.vec E k 0 rows)) w:=by
 obtain ⟨xs,I,G,h3,h4,h5⟩:=h.ob i _ hi;exact h.swap ⟨x,xs,I,G,h3,h4,fun b hb=>⟨fun o _=>h5 b hb o,fun o g ho=>by omega⟩,aS _⟩
theorem Inv.tK {i E k:Nat} {rows:List (List GV)} (h:Inv B K β Γ w) (hi:Γ[i]?=some (.vec E k 0 rows)):∃ a c,β i=.gr (.slice a rows.length c) rows.length/\Inv B K β (oset Γ i (.vech E k rows (.slice a rows.length c))) w:=by
 obtain ⟨x,xs,I,G,h3,h4,h5,h6⟩:=h.ob i _ hi;obtain ⟨a,c,rfl⟩:=G.shape;exact ⟨a,c,I,h.swap ⟨xs,I,G,h3,h4,fun b hb o=>(h5 b hb).1 o X⟩⟩
theorem sE {i:Nat} {x y:Ob} (h:Γ[i]?=some x):(oset Γ i y)[i]?=some y:=by
 have:=(bB h).1;rw [bQ,fb];simp [this]
theorem re {i:Nat} {x y:Ob}:oset (oset Γ i x) i y=oset Γ i y:=by rw [bQ,bQ,bQ,List.set_set]
theorem Inv.gr {i E k:Nat} {rows:List (List GV)} {x:Value} (h:Inv B K β Γ w) (hi:Γ[i]?=some (.vech E k rows x)):β i=.gr x rows.length:=by
 obtain ⟨xs,I,_⟩:=h.ob i _ hi;exact I
theorem Inv.sr {i E k:Nat} {rows:List (List GV)} {x:Value} (h:Inv B K β Γ w) (hi:Γ[i]?=some (.vech E k rows x)):∃ K',df K K'/\Rel K' β x (.sl k rows)/\Inv B K' β (oset Γ i (.vec E k rows.length rows)) w:=by
 obtain ⟨xs,I,G,h3,h4,h5⟩:=h.ob i _ hi;obtain ⟨K',hK,CY,bE⟩:=(h.BX hi).jY (sE hi);rw [<-bQ,re] at bE;refine ⟨K',hK,?_,bE⟩
 rcases G.2 with ⟨e5,e6⟩ | ⟨g,cap,cu,e5,_,_,ui,_⟩
 ·have:rows=[]:=ig e6;subst this;subst e5;exact .sl0 _ _ _
 ·subst e5;refine .sl g 0 cap k rows (fun j r hr=>⟨(h4 r (bo hr)).1,fun q g' nw=>?_⟩) ui;rw [dJ];exact CY _ g I rfl _ g' (xh h4 hr nw)
end
section
variable {P:Program} {m:Nat} {Q:eC} {fr:List GV} {Γ:List Ob} {ops:Array Oper} {rest:List Oper} {d:Option Tmp} {op:Op} {ty:TypeId} {pos:String} {af:Array Edge}
theorem Wk.gK (E k:Nat):Wk m fr Γ fr (Γ++[.vech E k [] (.slice none 0 0)]):=fun B K β w l hm hI hF=>by
 have cS:β Γ.length=.no:=hI.out _ (aI _);have bE:=hI.OC (w':=w) (E:=E) (k:=k) (x:=.slice none 0 0) (xs:=[]) (rows:=[]) (Ext.refl w) (jH.nil w 0 E k) (fun b hb=>by cases hb) bC.nil (fun r hr=>by cases hr);have hle:eg β (fZ β Γ.length (.gr (.slice none 0 0) ([]:List (List GV)).length)):=kq zgG;refine ⟨K,_,?_,hF.mono (df.refl K) hle⟩;have hb:fZ β Γ.length (.gr (.slice none 0 0) ([]:List (List GV)).length) Γ.length=.gr (.slice none 0 0) ([]:List (List GV)).length:=bI;have:=bE.swap (i:=Γ.length) (y:=.vech E k [] (.slice none 0 0)) ⟨[],hb,jH.nil w 0 E k,bC.nil,(fun r hr=>by cases hr),(fun b hb=>by cases hb)⟩;rw [bQ] at this;exact zcm
theorem Wk.tS {t i E k:Nat} {rows:List (List GV)} {x:Value} (ht:dc fr t=.v x) (lR:ly fr t=true) (bH:Γ[i]?=some (.vech E k rows x)):Wk m fr Γ (bX fr t (.sl k rows)) (oset Γ i (.vec E k rows.length rows)):=fun B K β w l hm hI hF=>by
 obtain ⟨K',hK,hr,bE⟩:=hI.sr bH;refine ⟨K',β,bE,?_⟩;have hv:nth l t=x:=Rel.eJ (by rw [<-ht];exact hF.nth t);have:=(hF.mono hK (eg.refl β)).gJ t hr;rw [<-hv,D0 (qh hF lR)] at this;exact this
theorem bC.bX {K:Fz} {β:Bt} {x:Value} {g:GV} (hr:Rel K β x g):∀ {vs:List Value} {cs:List GV} {o:Nat},bC K β vs cs->cs[o]?=some (.v x)->bC K β vs (bX cs o g):=by
 intro vs
 induction vs with
 | nil=>intro cs o h ho;exact zd2
 | cons v vs ih =>
  intro cs o h ho
  cases cs with
  | nil=>simp at ho
  | cons c cs =>
   obtain ⟨a1,a2⟩:=h.rj
   cases o with
   | zero=>cases ho;have hv:=Rel.eJ a1;subst hv;exact .cons hr a2
   | succ o=>exact .cons a1 (ih a2 (by simpa using ho))
theorem Wk.u7 {i o j E k:Nat} {T:TypeId} {cs:List GV} {rows:List (List GV)} {x:Value} (hi:Γ[i]?=some (.box T cs)) (ho:cs[o]?=some (.v x)) (fy:Nat.beq i j=false) (hj:Γ[j]?=some (.vech E k rows x)):Wk m fr Γ fr (oset (oset Γ j (.vec E k rows.length rows)) i (.box T (bX cs o (.sl k rows)))):=fun B K β w l hm hI hF=>by
 have cj:i≠j:=by intro e;subst e;simp at fy
 obtain ⟨K',hK,hr,bE⟩:=hI.sr hj;obtain ⟨b,vs,I,G,h3,h4⟩:=bE.ob i (.box T cs) zgs;exact ⟨K',β,bE.swap ⟨b,vs,I,G,bC.bX hr h3 ho,h4⟩,hF.mono hK (eg.refl β)⟩
def iw:List (List GV)->Nat->Nat->GV->List (List GV)
 | [],_,_,_=>[]
 | r::rs,0,o,g=>bX r o g::rs
 | r::rs,n+1,o,g=>r::iw rs n o g
theorem JG:∀ (l:List GV) (o:Nat) (g:GV),(bX l o g).length=l.length
 | [],_,_=>rfl
 | _::l,0,_=>rfl
 | _::l,o+1,g=>by simp [bX,JG l o g]
theorem Dy:∀ (a b:List GV) (o:Nat) (g:GV),bX (a++b) (a.length+o) g=a++bX b o g
 | [],b,o,g=>by simp
 | x::a,b,o,g=>by
  rw [cons_append,length_cons,show a.length+1+o=(a.length+o)+1 by omega,bX,Dy a b o g];rfl
theorem Hc:∀ (a b:List GV) (o:Nat) (g:GV),o < a.length->bX (a++b) o g=bX a o g++b
 | [],b,o,g,h=>by simp at h
 | x::a,b,0,g,h=>rfl
 | x::a,b,o+1,g,h=>by simp [bX,Hc a b o g zgc]
theorem U1 {l:List GV} {o:Nat} {g x:GV} (h:x∈bX l o g):x∈l\/x=g:=by
 induction l generalizing o with
 | nil=>cases h
 | cons y l ih =>
  cases o with
  | zero =>
   simp only [bX,List.mem_cons] at h;rcases h with h | h
   ·exact .inr h
   ·exact .inl (dK _ h)
  | succ o =>
   simp only [bX,List.mem_cons] at h;rcases h with h | h
   ·exact .inl (by rw [h];exact mem_cons_self)
   ·exact (ih h).imp (dK _) id
theorem eQ:∀ (rows:List (List GV)) (i o:Nat) (g:GV),(iw rows i o g).length=rows.length
 | [],_,_,_=>rfl
 | r::rs,0,_,_=>rfl
 | r::rs,n+1,o,g=>by simp [iw,eQ rs n o g]
theorem xS {k:Nat} {o:Nat} {g:GV} (ho:o < k):∀ {rows:List (List GV)} {i:Nat},kp k rows->i < rows.length->(iw rows i o g).flatten=bX rows.flatten (i * k+o) g
 | [],_,_,h=>by simp at h
 | r::rs,0,hk,_=>by
  have:=(hk r (mem_cons_self)).1;rw [iw,flatten_cons,flatten_cons,Nat.zero_mul,dJ,Hc _ _ _ _ X]
 | r::rs,n+1,hk,h=>by
  have:=(hk r (mem_cons_self)).1;rw [iw,flatten_cons,flatten_cons,xS ho (fun r hr=>hk r (dK _ hr)) zgc,show (n+1) * k+o=r.length+(n * k+o) by rw [Nat.succ_mul];omega,Dy]
theorem CC {k:Nat} {o:Nat} {g:GV} (hg:g.pc=true):∀ {rows:List (List GV)} {i:Nat},kp k rows->kp k (iw rows i o g)
 | [],_,_=>fun r hr=>by cases hr
 | r::rs,0,hk=>fun r' hr=>by
  simp only [iw,List.mem_cons] at hr
  rcases hr with rfl | hr
  ·exact ⟨by rw [JG];exact (hk r mem_cons_self).1,fun x hx=>by
    rcases U1 hx with h | h
    ·exact (hk r mem_cons_self).2 x h
    ·rw [h];exact hg⟩
  ·exact hk r' (dK _ hr)
 | r::rs,n+1,hk=>fun r' hr=>by
  simp only [iw,List.mem_cons] at hr
  rcases hr with rfl | hr
  ·exact hk _ mem_cons_self
  ·exact CC hg (fun r hr=>hk r (dK _ hr)) r' hr
theorem KM {a b:List (List GV)} {r:List GV} {o:Nat} {g:GV}:iw (a++r::b) a.length o g=a++bX r o g::b:=by
 induction a with
 | nil=>rfl
 | cons x a ih=>rw [cons_append,length_cons,iw,ih];rfl
theorem Wk.P2 {i idx o j E k T k':Nat} {rows ks:List (List GV)} {x h:Value} {r:List GV} (hi:Γ[i]?=some (.vech T k rows h)) (hr:rows[idx]?=some r) (ho:r[o]?=some (.v x)) (fy:Nat.beq i j=false) (hj:Γ[j]?=some (.vech E k' ks x)) :
  Wk m fr Γ fr (oset (oset Γ j (.vec E k' ks.length ks)) i (.vech T k (iw rows idx o (.sl k' ks)) h)):=fun B K β w l hm hI hF=>by
 have cj:i≠j:=by intro e;subst e;simp at fy
 obtain ⟨K',hK,kj,bE⟩:=hI.sr hj;obtain ⟨xs,I,G,h3,h4,h5⟩:=bE.ob i (.vech T k rows h) zgs;have au:=(bB hr).1
 have wW:o < k:=by rw [<-(h4 r (bo hr)).1];exact (bB ho).1
 exact ⟨K',β,bE.swap ⟨xs,by rw [eQ];exact I,by rw [eQ];exact G,by rw [xS wW h4 au];exact bC.bX kj h3 (xh h4 hr ho),CC rfl h4,h5⟩,hF.mono hK (eg.refl β)⟩
theorem YG.aP {x y:Operand} {t e:TypeId} {k:Nat} [hT:pW P t e k] (i:Nat) {v:Value} {kk:IntKind} {j E:Nat} {rows:List (List GV)} (hx:bq fr x=.v v) (hy:bq fr y=.v (.int kk j)) (bH:Γ[i]?=some (.vech E k rows v)) (hj:j < rows.length):YG P (.indexAddr t x y) fr Γ (.vp i rows.length k j 0):=fun B K β w l hI hF=>by
 have hv:=hF.lq hx;obtain ⟨xs,I,G,h3,h4,h5⟩:=hI.ob i _ bH
 rcases G.2 with ⟨h8,h9⟩ | ⟨g,cap,cur,h8,_,hg,_⟩
 ·omega
 ·subst h8;exact ⟨_,R.kJ hv (hF.lq hy) hj,.vp i _ k j 0 _ ⟨_,_,I,aI _,fun _=>⟨g,rfl,by simp⟩⟩⟩
theorem YG.aac {x:Operand} {s:TypeId} {f off k:Nat} {agg:Bool} [hT:gq P s f off k agg] {i n k' idx o E:Nat} {rows:List (List GV)} {v:Value} (hx:bq fr x=.vp i n k' idx o) (bH:Γ[i]?=some (.vech E k' rows v)) (hn:rows.length=n):YG P (.fieldAddr s x f) fr Γ (.vp i n k' idx (o+off)):=fun B K β w l hI hF=>by
 have h:=hF.ev x;rw [hx] at h;generalize hv:ev l x=u at h
 cases h with
 | vp _ _ _ _ _ _ h =>
  obtain ⟨h0,m,I,G,h3⟩:=h;rw [hI.gr bH] at I;cases I;obtain ⟨b,hb,rfl⟩:=h3 hn;exact ⟨_,R.UO hv,.vp i n k' idx _ _ ⟨_,_,hI.gr bH,G,fun _=>⟨b,hb,by rw [iJ]⟩⟩⟩
theorem YG.SO {x:Operand} {t:TypeId} [hT:Ty P t false 1] {i n k idx o E:Nat} {rows:List (List GV)} {v:Value} {r:List GV} {g:GV} (hx:bq fr x=.vp i n k idx o) (bH:Γ[i]?=some (.vech E k rows v)) (hn:rows.length=n) (hr:rows[idx]?=some r) (hg:r[o]?=some g):YG P (.load t x) fr Γ g:=fun B K β w l hI hF=>by
 have h:=hF.ev x;rw [hx] at h;generalize hv:ev l x=u at h
 cases h with
 | vp _ _ _ _ _ _ h =>
  obtain ⟨h0,m,I,G,h3⟩:=h;obtain ⟨xs,h4,h5,h6,h7,_⟩:=hI.ob i _ bH;rw [I] at h4;cases h4;obtain ⟨b,hb,rfl⟩:=h3 hn;obtain ⟨u,hu,kj⟩:=h6.at (xh h7 hr hg);obtain ⟨b2,c,he,_,_,hc⟩:=h5.cells.2 (by intro h0;rw [h0] at hu;simp at hu);subst he;cases hb;exact ⟨u,R.ld hv (by rw [<-gU];exact hc _ _ hu),kj⟩
theorem Lp {v:Value}:∀ (l:List Value) (n o:Nat),o < n->(gJ l o v).take n=gJ (l.take n) o v
 | [],n,o,h=>by simp [gJ]
 | x::l,0,o,h=>by omega
 | x::l,n+1,0,h=>by simp [gJ]
 | x::l,n+1,o+1,h=>by simp [gJ,Lp l n o X]
theorem Ay {v:Value}:∀ (l:List Value) (o:Nat),(gJ l o v).length=l.length
 | [],o=>rfl
 | x::l,0=>rfl
 | x::l,o+1=>by simp [gJ,Ay l o]
theorem GL.Dg {x y:Operand} {t:TypeId} [hT:Ty P t false 1] {i n k idx o E:Nat} {rows:List (List GV)} {v:Value} {r:List GV} {g:GV} (hx:bq fr x=.vp i n k idx o) (bH:Γ[i]?=some (.vech E k rows v)) (hn:rows.length=n) (hr:rows[idx]?=some r) (wW:Nat.blt o r.length=true)
  (hy:oS (bq fr y)=some [g]) (I:g.one=true) (hp:g.pc=true) (h:GL P m ops Q rest (bR fr d (.v undef)) (oset Γ i (.vech E k (iw rows idx o g) v))):GL P m ops Q (⟨d,.store t x y,ty,pos,af,none⟩::rest) fr Γ:=fun B K β w l hm hI hF=>by
 have hrr:=hF.ev x;rw [hx] at hrr;generalize hv:ev l x=u at hrr
 cases hrr with
 | vp _ _ _ _ _ _ hh =>
  obtain ⟨h0,mm,e1,e2,e3⟩:=hh;obtain ⟨xs,h4,h5,h6,h7,h8⟩:=hI.ob i _ bH;rw [e1] at h4;cases h4;obtain ⟨b,hb,rfl⟩:=e3 hn;have au:=(bB hr).1
  have aaA:o < k:=by rw [<-(h7 r (bo hr)).1];simpa using wW
  obtain ⟨us,oX,qf⟩:=(hF.ev y).cells hy
  obtain ⟨u1,rfl⟩:∃ u1,us=[u1]:=by
   have:=qf.1
   match us,this with
   | [u1],_=>exact ⟨u1,rfl⟩
  have hu3:Rel K β u1 g:=qf.2 0 u1 g rfl rfl
  have hq:idx * k+o < rows.length * k:=by
   have:(idx+1) * k<=rows.length * k:=ua k au;rw [Nat.succ_mul] at this;omega
  rcases h5.2 with ⟨e5,e6⟩ | ⟨g0,cap,cur,e5,abJ,hg,ui,CW,dj,oW⟩
  ·omega
  ·subst e5;simp only [Value.ownBlock,Option.some.injEq] at hb;subst hb;have aap:rows.length * k<=cap * k:=ua k ui
   refine WL.st (t:=t) (k:=1) hv rfl hg (by rw [oX];rfl) X (by rw [oX];have:=(Ak (hu3.one I)).2;simpa [Xw.pO] using this) fun w' hs=>?_
   rw [oX] at hs
   have jL:yi cur (idx * k+o) ([u1]:List Value)=(gJ cur.toList (idx * k+o) u1).toArray:=by
    simp only [yi];rw [<-Fm]
   simp only [List.toList_toArray,jL] at hs
   have Il:rows.flatten.length=rows.length * k:=by rw [<-h6.1];exact h5.1
   have how:jH w' 0 E k (.slice (some ⟨g0,0,none⟩) rows.length cap) rows.length (gJ xs (idx * k+o) u1) :=
    ⟨by rw [Ay];exact h5.1,.inr ⟨g0,cap,_,rfl,abJ,hs.blk,ui,CW,by simp [Ay,dj],by rw [List.toList_toArray,Lp _ _ _ hq,oW]⟩⟩
   have kj:bC K β (gJ xs (idx * k+o) u1) (bX rows.flatten (idx * k+o) g):=by
    have gen:∀ (vs:List Value) (cs:List GV) (q:Nat),bC K β vs cs->bC K β (gJ vs q u1) (bX cs q g):=by
     intro vs
     induction vs with
     | nil=>intro cs q h;have:cs=[]:=ig h.1.symm;subst this;exact h
     | cons v vs ih =>
      intro cs q h
      cases cs with
      | nil=>have:=h.1;simp at this
      | cons c cs =>
       obtain ⟨a1,a2⟩:=h.rj
       cases q with
       | zero=>exact .cons hu3 a2
       | succ q=>exact .cons a1 (ih cs q a2)
    exact gen _ _ _ h6
   have eN:(β i).has g0:=by rw [e1];exact rfl
   have bE:Inv B K β (oset Γ i (.vech E k (iw rows idx o g) (.slice (some ⟨g0,0,none⟩) rows.length cap))) w':=by
    refine ⟨hI.ext.step hs.ext (fun j hj=>?_),hI.kle,hI.ble,hI.loc,hI.fz.ext hs.ext (fun b' o' g' nw he=>?_),fun j y hj=>?_,fun j hj=>hI.out j zg9,hI.dis,hI.own,hI.kn,hI.tab.step hs.ext (fun j hj=>⟨i,by subst hj;exact eN⟩) (df.refl K) (fun i b2 h=>.inl ⟨i,h⟩)⟩
    ·subst hj;exact (hI.own i _ eN).symm
    ·subst he;rw [h8 _ rfl] at nw;cases nw
    ·rw [bQ,fb] at hj;split at hj
     ·rename_i fy;split at hj
      ·cases hj;subst fy
       exact ⟨_,by rw [eQ];exact e1,by rw [eQ];exact how,by rw [xS aaA h7 au];exact kj,CC hp h7,h8⟩
      ·cases hj
     ·rename_i fy;refine (hI.ob j y hj).ext hs.ext (fun b' bG he=>?_) (df.refl K) (eg.refl β) rfl (fun _ _ _ h=>h);subst he;exact fy (hI.dis i j _ eN bG)
   exact h B K β w' _ hm bE (hF.put d (.v _))
theorem GL.fO {x:Operand} {ts:Tmp} {t e k lG:Nat} {z:List Value} [hT:rR P t e k lG] [hZ:tu P t e k z] {d1 dt:Tmp} {TG:TypeId} {KD:String} {Qy:Array Edge} (i:Nat) {n:Nat} {rows:List (List GV)} {gs:List GV} {v:Value}
  (hx:oS (bq fr x)=some gs) (hk:Nat.beq gs.length k=true) (I:pP gs=true) (hp:th gs=true) (hs:dc fr ts=.v v) (hsd:Nat.beq ts d1=false) (hd:ly fr d1=true) (bH:Γ[i]?=some (.vech e k rows v)) (hn:rows.length=n)
  (hb:(n+1<=9223372036854775807/\(n+1) * lG<=140737488355328)/\k<=16777216)
  (h:∀ a c,GL P m ops Q rest (bR (bR fr (some d1) U) (some dt) (.v (.slice a (n+1) c))) (oset Γ i (.vech e k (rows++[gs]) (.slice a (n+1) c)))) :
  GL P m ops Q (⟨some d1,.buildSlice t 1 #[(0,x)],TG,KD,Qy,none⟩::⟨some dt,.call ⟨.builtin .append,#[.tmp ts,.tmp d1],#[t,t]⟩,ty,pos,af,none⟩::rest) fr Γ:=fun B K β w l hm hI hF=>by
 subst hn;obtain ⟨us,oX,qf⟩:=(hF.ev x).cells hx;obtain ⟨xs,o1,o2,o3,o4,o5⟩:=hI.ob i _ bH;have uo:nth l ts=v:=Rel.eJ (by rw [<-hs];exact hF.nth ts);have Eu:=qh hF hd
 have adx:ts≠d1:=by intro e;subst e;simp at hsd
 have fm:gs.length=k:=by simpa using hk
 refine WL.push (base:=0) (v:=v) (vs:=us) (val:=ev l x) (xs:=xs) (n:=rows.length) rfl (fun u=>by rw [show ev (put l (some d1) u) (.tmp ts)=nth (gJ l d1 u) ts from rfl,rz adx];exact uo) (fun u=>wh Eu u) oX (by rw [qf.1,fm]) (qf.pO I) o2 hb.1.1 hb.1.2 hb.2 (aS _) ?_;intro u v' w' how lf sS yT;obtain ⟨K',hK,nW,bE⟩:=(hI.BX bH).grow (fz:=0) (sE bH) o1 ⟨o2,o3⟩ (news:=[gs]) (ns:=us) how lf sS (by simpa using qf) (fun r hr=>by simp at hr;subst hr;exact ⟨fm,o8 hp⟩) zf8 (fun b bG o v ho hv=>by omega);rw [<-bQ,re] at bE;obtain ⟨a,c,wN,vj⟩:=bE.tK (sE bH);rw [re] at vj;obtain ⟨a',c',rfl⟩:=how.shape;rw [bI] at wN;simp only [aL,length_cons,length_nil] at wN vj nW;cases wN;exact h _ _ B K' _ w' _ hm vj (((hF.mono hK nW).put (some d1) (.U u)).put (some dt) (.v _))
theorem GL.nF {s x:Operand} {t e k lG:Nat} [hT:rR P t e k lG] (i:Nat) {n:Nat} {dt:Tmp} {v:Value} {rows news:List (List GV)} (hx:bq fr x=.sl k news) (hs:bq fr s=.v v) (bH:Γ[i]?=some (.vech e k rows v)) (hn:rows.length=n) (I:oG news=true) (cj:news.isEmpty=false)
  (hb:n+news.length<=9223372036854775807/\(n+news.length) * lG<=140737488355328)
  (h:∀ a c,GL P m ops Q rest (bR fr (some dt) (.v (.slice a (n+news.length) c))) (oset Γ i (.vech e k (rows++news) (.slice a (n+news.length) c)))) :
  GL P m ops Q (⟨some dt,.call ⟨.builtin .append,#[s,x],#[t,t]⟩,ty,pos,af,none⟩::rest) fr Γ:=fun B K β w l hm hI hF=>by
 subst hn
 have cj:news≠[]:=by intro h0;rw [h0] at cj;cases cj
 obtain ⟨xs,o1,o2,o3,o4,o5⟩:=hI.ob i _ bH;have uo:ev l s=v:=hF.lq hs;have vr:=hF.ev x;rw [hx] at vr;generalize w5:ev l x=vx at vr
 cases vr with
 | sl0 a c k=>exact absurd rfl cj
 | sl b o c _ _ hr _ =>
  have oD:kp k news:=fun r Sb=>by
   exact zbA
  have Il:∀ (rows:List (List GV)) (o:Nat),(∀ (j:Nat) r,rows[j]?=some r->r.length=k/\∀ (q:Nat) g,r[q]?=some g->K b (o+j * k+q)=some g)->∀ (q:Nat) g,rows.flatten[q]?=some g->K b (o+q)=some g:=by
   intro rows
   induction rows with
   | nil=>intro o _ q g hg;simp at hg
   | cons r rows ih =>
    intro o h q g hg;rw [flatten_cons] at hg;have hl:=(h 0 r rfl).1
    by_cases hq:q < r.length
    ·rw [gm hq] at hg;have:=(h 0 r rfl).2 q g hg;exact zcm
    ·rw [gR X,hl] at hg
     have:=ih (o+k) (fun j r' hj=>by
      have:=h (j+1) r' zgp;refine ⟨this.1,fun q g hg=>?_⟩;have:=this.2 q g hg
      rw [show o+(j+1) * k+q=o+k+j * k+q by rw [Nat.succ_mul];omega] at this;exact this) (q - k) g hg
     rw [show o+k+(q - k)=o+q by omega] at this;exact this
  obtain ⟨us,oX,qf⟩:=zD (K:=K) (β:=β) (H:=w.heap) (b:=b) news.flatten o (fun j g hj=>by
   obtain ⟨hp,u,hu,kj⟩:=hI.fz _ _ _ (Il news o (fun j r hj=>hr j r hj) j g hj)
   exact ⟨u,hu,kj.pc hp⟩)
  have JZ:us.length=news.length * k:=by
   rw [oX.1,List.length_flatten]
   have:∀ (rows:List (List GV)),kp k rows->(rows.map List.length).sum=rows.length * k:=by
    intro rows
    induction rows with
    | nil=>intro _;simp
    | cons r rows ih =>
     intro hk;exact zcG
   exact this news oD
  refine WL.app (base:=0) (v:=v) (n:=rows.length) (m:=news.length) (xs:=xs) (news:=us) uo o2 w5 JZ (fun j u hj=>by rw [gU];exact qf j u hj) (oX.pO (E7 I)) hb.1 hb.2 (aS _) ?_;intro v' w' how lf sS yT;obtain ⟨K',hK,nW,bE⟩:=(hI.BX bH).grow (fz:=0) (sE bH) o1 ⟨o2,o3⟩ (news:=news) (ns:=us) how lf sS oX oD cj (fun b bG o v ho hv=>by omega);rw [<-bQ,re] at bE;obtain ⟨a,c,wN,vj⟩:=bE.tK (sE bH);rw [re] at vj;obtain ⟨a',c',rfl⟩:=how.shape;rw [bI] at wN;simp only [aL] at wN vj nW;cases wN;exact zeS
end
class Fx (P:Program) (t:TypeId):Prop where
 und:∃ e j,P.underlying t=some (.pointer e)/\P.info? e=some j
theorem Fx.mk' {P:Program} {t e:TypeId} (h:P.underlying t=some (.pointer e)) (k:(P.info? e).isSome=true):Fx P t:=⟨e,(P.info? e).get k,h,by simp⟩
section
variable {P:Program} {m:Nat} {Q:eC} {fr:List GV} {Γ:List Ob} {ops:Array Oper} {rest:List Oper} {d:Option Tmp} {op:Op} {ty:TypeId} {pos:String} {af:Array Edge}
theorem YG.jt {x y:Operand} {t t':TypeId} [hT:Fx P t] {i o:Nat} (hx:bq fr x=.loc i o) (hy:bq fr y=.v (.pointer none)):YG P (.binOp .eql t x y t') fr Γ (.v (.bool false)):=fun B K β w l hI hF=>by
 have h:=hF.ev x;rw [hx] at h;generalize hv:ev l x=v at h
 cases h with
 | loc _ _ b hb =>
  obtain ⟨e,j,I,G⟩:=hT.und
  have hp:P.pointee t=e:=by simp [Program.pointee,I]
  have:=run_eql_pointer_nil (P:=P) w t (some ⟨b,o,none⟩) (by rw [hp];exact I);refine ⟨_,fun d ty pos af=>?_,.v _⟩;simp [execOp,eqGuard,hv,hF.lq hy,this]
theorem YG.ju {x y:Operand} {t t':TypeId} [hT:Fx P t] {i o:Nat} (hx:bq fr x=.loc i o) (hy:bq fr y=.loc i o):YG P (.binOp .neq t x y t') fr Γ (.v (.bool false)):=fun B K β w l hI hF=>by
 have h:=hF.ev x;rw [hx] at h;have h':=hF.ev y;rw [hy] at h';generalize hv:ev l x=v at h;generalize EI:ev l y=v' at h'
 cases h with
 | loc _ _ b hb =>
  cases h' with
  | loc _ _ b' bG =>
   rw [hb] at bG;cases bG;obtain ⟨e,j,I,G⟩:=hT.und;have:=Lib.run_neq_ptr_same (P:=P) w ⟨b,o,none⟩ I G;refine ⟨_,fun d ty pos af=>?_,.v _⟩;simp [execOp,eqGuard,hv,EI,this]
theorem Inv.again {B:Bs} {K:Fz} {β:Bt} {Γ:List Ob} {w w':World} {i E k:Nat} {rows:List (List GV)} {x:Value} {xs:List Value} (h:Inv B K β Γ w) (hi:Γ[i]?=some (.vech E k rows x)) (ho:jH w' 0 E k x rows.length xs) (hr:bC K β xs rows.flatten)
  (hx:Ext (fun b=>x.ownBlock=some b) w w'):Inv B K β Γ w':=by
 obtain ⟨xs0,I,G,h3,h4,h5⟩:=h.ob i _ hi
 have eN:∀ b,x.ownBlock=some b->(β i).has b:=fun b hb=>by rw [I];exact hb
 refine ⟨h.ext.step hx (fun j hj=>(h.own i j (eN j hj)).symm),h.kle,h.ble,h.loc,h.fz.ext hx (fun b o g hg he=>by rw [h5 b he o] at hg;cases hg),fun j y hj=>?_,h.out,h.dis,h.own,h.kn,h.tab.step hx (fun j hj=>⟨i,eN j hj⟩) (df.refl K) (fun i b2 h=>.inl ⟨i,h⟩)⟩
 by_cases lS:j=i
 ·subst lS;rw [hi] at hj;cases hj;exact ⟨xs,I,ho,hr,h4,h5⟩
 ·exact (h.ob j y hj).ext hx (fun b hb he=>lS (h.dis j i b hb (eN b he))) (df.refl K) (eg.refl β) rfl (fun _ _ _ h=>h)
theorem GL.abE {s x:Operand} {t u e:Nat} [hT:GG P t e] [hU:tw P u] (i:Nat) {n:Nat} {dt:Tmp} {v:Value} {rows:List (List GV)} {str:ae} (hx:bq fr x=.v (sv str)) (hs:bq fr s=.v v) (bH:Γ[i]?=some (.vech e 1 rows v)) (hn:rows.length=n) (cj:str.isEmpty=false)
  (hb:n+str.length<=140737488355328)
  (h:∀ a c,GL P m ops Q rest (bR fr (some dt) (.v (.slice a (n+str.length) c))) (oset Γ i (.vech e 1 (rows++bN str) (.slice a (n+str.length) c)))) :
  GL P m ops Q (⟨some dt,.call ⟨.builtin .append,#[s,x],#[t,u]⟩,ty,pos,af,none⟩::rest) fr Γ:=fun B K β w l hm hI hF=>by
 subst hn
 have cj:str≠[]:=by intro h0;rw [h0] at cj;cases cj
 obtain ⟨xs,o1,o2,o3,o4,o5⟩:=hI.ob i _ bH;have uo:ev l s=v:=hF.lq hs
 have ki:(bN str).flatten=str.map fun c=>GV.v (.int .u8 (c.toNat:Int)):=by
  unfold bN;clear hx cj hb h;generalize str=s
  induction s with
  | nil=>rfl
  | cons c r ih=>exact zd4
 have hlen:(bN str).length=str.length:=by simp [bN]
 refine WL.FA (base:=0) (v:=v) (n:=rows.length) (xs:=xs) (str:=str) uo o2 (hF.lq hx) hb (aS _) ?_;intro v' w' how lf sS yT
 obtain ⟨K',hK,nW,bE⟩:=(hI.BX bH).grow (fz:=0) (sE bH) o1 ⟨o2,o3⟩ (news:=bN str) (ns:=nN str) (by rw [hlen];exact how) lf sS (by rw [ki];exact (by
   have:(str.map fun c=>GV.v (.int .u8 (c.toNat:Int)))=rK (nN str):=by simp [rK,nN]
   rw [this];exact bC.self)) (fun r hr=>by
   simp only [bN,vb] at hr;obtain ⟨c,_,rfl⟩:=hr
   exact ⟨rfl,fun g hg=>by rw [List.mem_singleton] at hg;subst hg;rfl⟩) (by intro h0;exact cj (List.map_eq_nil_iff.1 h0)) (fun b bG o v ho hv=>by omega)
 rw [<-bQ,re] at bE;obtain ⟨a,c,wN,vj⟩:=bE.tK (sE bH);rw [re] at vj;obtain ⟨a',c',rfl⟩:=how.shape;rw [bI] at wN;simp only [aL,hlen] at wN vj nW;cases wN;exact zeS
theorem GL.abD {s x:Operand} {t u e:Nat} [hT:GG P t e] [hU:tw P u] (i:Nat) {rows:List (List GV)} {v:Value} (hx:bq fr x=.v (sv [])) (hs:bq fr s=.v v) (bH:Γ[i]?=some (.vech e 1 rows v)) (hb:rows.length<=140737488355328)
  (h:GL P m ops Q rest (bR fr d (.v v)) Γ):GL P m ops Q (⟨d,.call ⟨.builtin .append,#[s,x],#[t,u]⟩,ty,pos,af,none⟩::rest) fr Γ:=fun B K β w l hm hI hF=>by
 obtain ⟨xs,o1,o2,o3,o4,o5⟩:=hI.ob i _ bH;have uo:=hF.lq hs;have w5:=hF.lq hx;obtain ⟨hu,i',hi,hz,dj,Et⟩:=hT.is;have vq:(⟨([]:ae).toArray⟩:ByteArray).size=0:=rfl;obtain ⟨v',w',hr,G,h3,h4⟩:=Lib.run_append_own_string (P:=P) w 0 t u ty e i' hu hU.und hi hz dj Et v rows.length xs o2 ⟨([]:ae).toArray⟩ (by rw [vq];simp only [maxLen];omega) (by rw [vq];omega) (aS _)
 have EI:v'=v:=by
  rcases o2.2 with ⟨rfl,h6⟩ | ⟨g,cap,cur,rfl,qU,hg,ui,CW,jL,EH⟩
  ·exact h4.2 ⟨rfl,rfl⟩
  ·have aat:cur.size=cap:=by simpa using jL
   have eR:=Lib.run_append_room_string (P:=P) w t u ty e i' hu hU.und hi dj g rows.length cap cur hg ⟨([]:ae).toArray⟩ (by rw [vq];omega) (by unfold maxLen at CW;rw [vq];omega);rw [hr] at eR;cases eR;rfl
 subst EI;have qy:(Builtin.append_ #[t,u] ty #[v',sv []]).run P w=.ok v' w':=hr;have jL:Lib.strCells ⟨([]:ae).toArray⟩=[]:=rfl;rw [jL,dN] at G;have lf:Ext (fun b=>v'.ownBlock=some b) w w':=⟨h3.os,h3.tape,h3.output,h3.size,fun j hj hn=>h3.block j hj fun he=>hn he.symm⟩;have bE:=hI.again bH G o3 lf;exact WL.val (v:=v') (w':=w') zgE (h B K β w' _ hm bE (hF.put d (.v _)))
theorem YG.fT {x:Operand} {t:TypeId} (i:Nat) {E n c:Nat} {a:Option Addr} {rows:List (List GV)} (hx:bq fr x=.v (.slice a n c)) (bH:Γ[i]?=some (.vech E 1 rows (.slice a n c))) (hn:rows.length=n) (hp:Nat.blt 0 n=true) :
  YG P (.call ⟨.builtin .unsafeSliceData,#[x],#[t]⟩) fr Γ (.vp i n 1 0 0):=fun B K β w l hI hF=>by
 subst hn
 have hp:0 < rows.length:=by simpa using hp
 obtain ⟨xs,I,G,h3,h4,h5⟩:=hI.ob i _ bH;have hv:=hF.lq hx
 rcases G.2 with ⟨h8,h9⟩ | ⟨g,cap,cur,h8,_,hg,ui,_⟩
 ·omega
 ·cases h8
  have hr:=fun ts ty=>Lib.run_unsafeSliceData_row (P:=P) (w:=w) ts ty ⟨g,0,none⟩ rows.length c X
  exact ⟨.pointer (some ⟨g,0,none⟩),fun d ty pos af=>by simp [execOp,resolve,invoke,builtin,hv,hr],.vp i _ 1 0 0 _ ⟨_,_,I,aI _,fun _=>⟨g,rfl,by simp⟩⟩⟩
theorem GL.TI {x y:Operand} {pt it e:TypeId} (i:Nat) {str:ae} {rows:List (List GV)} {v:Value} (hp:P.underlying pt=some (.pointer e)) (hc:P.cellsOf e=1) (hx:bq fr x=.vp i str.length 1 0 0) (hy:bq fr y=.v (ii str.length)) (bH:Γ[i]?=some (.vech e 1 rows v)) (oD:rows=bN str)
  (cj:str.isEmpty=false) (hb:str.length<=140737488355328)
  (h:GL P m ops Q rest (bR fr d (.v (sv str))) (oset Γ i .lost)):GL P m ops Q (⟨d,.call ⟨.builtin .unsafeString,#[x,y],#[pt,it]⟩,ty,pos,af,none⟩::rest) fr Γ:=fun B K β w l hm hI hF=>by
 have cj:str≠[]:=by intro h0;rw [h0] at cj;cases cj
 subst oD;obtain ⟨xs,o1,o2,o3,o4,o5⟩:=hI.ob i _ bH
 have hlen:(bN str).length=str.length:=by simp [bN]
 have hr:=hF.ev x;rw [hx] at hr;have hyv:=hF.lq hy;generalize hv:ev l x=u at hr
 cases hr with
 | vp _ _ _ _ _ _ hh =>
  obtain ⟨h0,mm,e1,e2,e3⟩:=hh;rw [e1] at o1;cases o1;obtain ⟨b,M6,rfl⟩:=e3 hlen
  rcases o2.2 with ⟨h8,h9⟩ | ⟨g,cap,cur,h8,_,hg,ui,CW,jL,EH⟩
  ·rw [hlen] at h9;exact absurd (ig h9) cj
  ·subst h8;simp only [Value.ownBlock,Option.some.injEq] at M6;subst M6
   have sX:xs=nN str:=by
    have ki:(bN str).flatten=rK (nN str):=by
     have:(bN str).flatten=str.map fun c=>GV.v (.int .u8 (c.toNat:Int)):=by
      unfold bN;generalize str=s
      induction s with
      | nil=>rfl
      | cons c r ih=>exact zd4
     rw [this];simp [rK,nN]
    rw [ki] at o3;apply ext_getElem
    ·have:=o3.1;simpa [rK] using this
    ·intro j I G;have:=o3.2 j xs[j] (.v (nN str)[j]) (by simp [I]) (by simp [rK,G]);exact Rel.eJ this
   have tI:∀ j y,str[j]?=some y->w.cell? ((⟨g,0,none⟩:Addr).add j)=some (.int .u8 y.toNat):=fun j y hy=>by
    have:=World.ownsRow.cells (g:=g) o2 rfl j (.int .u8 y.toNat) (by rw [sX];simp [nN,hy]);exact this
   have ad5:(bN str).length<=cur.size:=by rw [jL];omega
   have qy:=Lib.run_unsafeString_row (P:=P) w pt it ty e hp hc g cur.size (by simp [World.shape?,hg]) str cj X X tI
   have lf:Ext (·=g) w (w.freeze ⟨g,0,none⟩ str.length):=by
    have:=Lib.below_freeze (Below.refl 0 w) (p:=⟨g,0,none⟩) (aS g) str.length
    exact ⟨this.os,this.tape,this.output,this.size,fun k hk hn=>by
     unfold World.freeze;split
     ·rfl
     ·simp only [Array.getElem?_modify]
      rw [ab (fun he=>hn he.symm)]⟩
   have eN:(β i).has g:=by rw [e1];exact rfl
   have bE:Inv B K β (oset Γ i .lost) (w.freeze ⟨g,0,none⟩ str.length):=by
    refine ⟨hI.ext.step lf (fun j hj=>by subst hj;exact (hI.own i _ eN).symm),hI.kle,hI.ble,hI.loc,hI.fz.ext lf (fun b o g' nw he=>by subst he;rw [o5 _ rfl o] at nw;cases nw),fun j y hj=>?_,fun j hj=>hI.out j zg9,hI.dis,hI.own,hI.kn,hI.tab.step lf (fun j hj=>⟨i,by subst hj;exact eN⟩) (df.refl K) (fun i b2 h=>.inl ⟨i,h⟩)⟩;rw [bQ,fb] at hj;split at hj
    ·rename_i fy;split at hj
     ·cases hj;subst fy
      intro b bG;rw [e1] at bG;cases bG;have:=vu hg;exact AA this lf.size
     ·cases hj
    ·rename_i fy;exact (hI.ob j y hj).ext lf (fun b hb he=>by subst he;exact fy (hI.dis i j _ eN hb)) (df.refl K) (eg.refl β) rfl (fun _ _ _ h=>h)
   exact WL.val (v:=sv str) (w':=w.freeze ⟨g,0,none⟩ str.length) (by simp [execOp,resolve,invoke,builtin,hv,hyv,qy,sv]) (h B K β _ _ hm bE (hF.put d (.v _)))
theorem Inv.Wu {B:Bs} {K:Fz} {β:Bt} {Γ:List Ob} {w:World} {x:Bk} {y:Ob} (h:Inv B K β Γ w) (hd:∀ b,x.has b->(∀ i,¬ (β i).has b)/\B.w0.heap.size<=b/\(b≠1/\b≠2))
  (ho:mz K (fZ β Γ.length x) w Γ.length y) (hold:eg β (fZ β Γ.length x)):Inv B K (fZ β Γ.length x) (Γ++[y]) w:=by
 refine ⟨h.ext,h.kle,h.ble.trans hold,h.loc,h.fz,fun i z hi=>?_,fun i hi=>?_,fun i j b hi hj=>?_,fun i b hi=>?_,h.kn,⟨h.tab.le,h.tab.pow,h.tab.spc,fun i b hi=>?_⟩⟩
 ·by_cases ue:i < Γ.length
  ·rw [gm ue] at hi;exact zde
  ·have:i=Γ.length:=by have:=(bB hi).1;simp at this;omega
   subst this;simp at hi;subst hi;exact ho
 ·simp at hi;rw [bU X];exact h.out i X
 ·by_cases I:i=Γ.length <;> by_cases G:j=Γ.length
  ·omega
  ·subst I;rw [bI] at hi;rw [bU G] at hj;exact absurd hj ((hd b hi).1 j)
  ·subst G;rw [bI] at hj;rw [bU I] at hi;exact absurd hi ((hd b hj).1 i)
  ·rw [bU I] at hi;rw [bU G] at hj;exact h.dis i j b hi hj
 ·rcases mJ hi with I | I
  ·exact .inr (hd b I).2.1
  ·exact h.own i b I
 ·rcases mJ hi with I | I
  ·exact (hd b I).2.2
  ·exact h.tab.free i b I
theorem YG.acI {x lo:Operand} {t e:TypeId} {k:Nat} [hT:pW P t e k] {rows:List (List GV)} {kk:IntKind} {i:Nat} (hx:bq fr x=.sl k rows) (kR:bq fr lo=.v (.int kk i)) (hi:Nat.blt i rows.length=true):YG P (.slice t x (some lo) none none) fr Γ (.sl k (rows.drop i)):=fun B K β w l hI hF=>by
 have hi:i < rows.length:=by simpa using hi
 have h:=hF.ev x;rw [hx] at h;have Nb:=hF.lq kR;generalize hv:ev l x=v at h
 cases h with
 | sl0 a c=>simp at hi
 | sl b o c _ _ h hc =>
  refine ⟨.slice (some ⟨b,o+i * k,none⟩) (rows.length - i) (c - i),fun d ty pos af=>?_,?_⟩
  ·have rG:¬ (c=i):=by omega
   have hle:(i:Int)<=(rows.length:Int):=by omega
   simp [execOp,Instr.sliceAt,Instr.slice,Instr.sliceBounds,Instr.sliceBound,asIntOf,hv,Nb,run_underlying hT.und,lD hT.siz,rG,Nat.le_of_lt hi,tA]
  ·have:=Rel.sl (K:=K) (β:=β) b (o+i * k) (c - i) k (rows.drop i) (fun j r hr=>?_) zgD
   ·rw [lE] at this;exact this
   ·rw [List.getElem?_drop] at hr;refine ⟨(h (i+j) r hr).1,fun q g hg=>?_⟩;have:=(h (i+j) r hr).2 q g hg;rw [Nat.add_mul] at this;rw [show o+i * k+j * k+q=o+(i * k+j * k)+q by omega];exact this
theorem YG.gz {x lo:Operand} {t e:TypeId} {k:Nat} [hT:pW P t e k] {rows:List (List GV)} {kk:IntKind} {n:Int} (i:Nat) (hx:bq fr x=.sl k rows) (kR:bq fr lo=.v (.int kk n)) (hn:n=(i:Int)) (hi:Nat.blt i rows.length=true):YG P (.slice t x (some lo) none none) fr Γ (.sl k (rows.drop i)):=by
 subst hn;exact YG.acI hx kR hi
end
def qJ (a:Int):Int:=IntKind.i64.wrap a
def pE (a b:Int):Int:=IntKind.i64.wrap (((a % 18446744073709551616).toNat &&& (b % 18446744073709551616).toNat:Nat):Int)
def sI (a b:Int):Int:=IntKind.i64.wrap (((a % 18446744073709551616).toNat ^^^ (b % 18446744073709551616).toNat:Nat):Int)
theorem ZD (a:Int) : -9223372036854775808<=qJ a/\qJ a<=9223372036854775807:=by
 unfold qJ;rw [IntKind.wrap_i64];omega
theorem Dl (a b:Int) (hb:0<=b/\b<=9223372036854775807):0<=pE a b/\pE a b<=b:=by
 unfold pE
 have I:(b % 18446744073709551616).toNat=b.toNat:=by rw [Int.emod_eq_of_lt hb.1 X]
 have G:(a % 18446744073709551616).toNat &&& (b % 18446744073709551616).toNat<=b.toNat:=by rw [I];exact Nat.and_le_right
 rw [IntKind.wrap_i64];omega
theorem ZU (a b:Int):(BitVec.ofInt 64 a &&& BitVec.ofInt 64 b).toNat=(a % 18446744073709551616).toNat &&& (b % 18446744073709551616).toNat:=by rw [BitVec.toNat_and,BitVec.toNat_ofInt,BitVec.toNat_ofInt];rfl
theorem ZV (a b:Int):(BitVec.ofInt 64 a ^^^ BitVec.ofInt 64 b).toNat=(a % 18446744073709551616).toNat ^^^ (b % 18446744073709551616).toNat:=by rw [BitVec.toNat_xor,BitVec.toNat_ofInt,BitVec.toNat_ofInt];rfl
section
variable {P:Program} {fr:List GV} {Γ:List Ob} {x y:Operand} {t t':TypeId} {a b:Int}
theorem YG.ZO (hx:bq fr x=.v (ii a)) (hy:bq fr y=.v (ii b)):YG P (.binOp .add t x y t') fr Γ (.v (ii (qJ (a+b)))) :=
 YG.v2 hx hy fun l w h k d ty pos af=>by simp [execOp,eqGuard,h,k,binOp,Op.intArith,qJ]
theorem YG.aaS (hx:bq fr x=.v (ii a)) (hy:bq fr y=.v (ii b)):YG P (.binOp .mul t x y t') fr Γ (.v (ii (qJ (a * b)))) :=
 YG.v2 hx hy fun l w h k d ty pos af=>by simp [execOp,eqGuard,h,k,binOp,Op.intArith,qJ]
theorem YG.OD (hx:bq fr x=.v (ii a)) (hy:bq fr y=.v (ii b)):YG P (.binOp .and t x y t') fr Γ (.v (ii (pE a b))) :=
 YG.v2 hx hy fun l w h k d ty pos af=>by
  simp [execOp,eqGuard,h,k,binOp,Op.intBits,pE,IntKind.bits];exact congrArg (fun n:Nat=>IntKind.i64.wrap (n:Int)) (ZU a b)
theorem YG.abx (hx:bq fr x=.v (ii a)) (hy:bq fr y=.v (ii b)):YG P (.binOp .xor t x y t') fr Γ (.v (ii (sI a b))) :=
 YG.v2 hx hy fun l w h k d ty pos af=>by
  simp [execOp,eqGuard,h,k,binOp,Op.intBits,sI,IntKind.bits];exact congrArg (fun n:Nat=>IntKind.i64.wrap (n:Int)) (ZV a b)
theorem YG.P3 {kk:IntKind} {n:Nat} (hx:bq fr x=.v (ii a)) (hy:bq fr y=.v (.int kk (n:Int))):YG P (.binOp .shr t x y t') fr Γ (.v (ii (a.fdiv (2 ^ min n 64)))) :=
 YG.v2 hx hy fun l w h k d ty pos af=>by
  have:¬ ((n:Int) < 0):=by omega
  simp [execOp,eqGuard,h,k,binOp,Op.shift,this,IntKind.bits]
end
end Go.Xg
set_option maxHeartbeats 4000000
namespace Go.Xg
open Go.RowKit Go.Xw Go.Proofs Tryz
open GV (U)
structure dx where
 i:Nat
 h:Int
abbrev yb (code:ae) (c:dx):List GV:=[.sl 1 (bN code),.v (ii (c.i:Nat)),.v (ii c.h)]
def zP (c:dx):Int:=qJ (qJ (c.h * 6364136223846793005)+1442695040888963407)
def F6 (h:Int):Int:=pE (sI (h.fdiv (2 ^ min 33 64)) (h.fdiv (2 ^ min 45 64))) 255
def np (code:ae) (c:dx):Int × dx:=match code[c.i]? with
 | some b=>(pE (F6 (zP c)+((b.toNat:Nat):Int)) 255,⟨c.i+1,zP c⟩)
 | none=>(F6 (zP c),⟨c.i,zP c⟩)
def bd (code:ae) (n:Int) (c:dx):Int × dx :=
 if n<=0 then (0,c) else if n<=256 then ((np code c).1 % n,(np code c).2) else
  let a:=np code c
  let b:=np code a.2
  let d:=np code b.2
  let e:=np code d.2
  ((a.1 * 16777216+b.1 * 65536+d.1 * 256+e.1) % n,e.2)
theorem Ko (h:Int):0<=F6 h/\F6 h<=255:=Dl _ _ ⟨by omega,by omega⟩
theorem xB (code:ae) (c:dx):0<=(np code c).1/\(np code c).1<=255:=by
 unfold np;split
 ·exact Dl _ _ ⟨by omega,by omega⟩
 ·exact Ko _
theorem sK {code:ae} {c:dx} (h:c.i<=code.length):(np code c).2.i<=code.length:=by
 unfold np;split
 ·rename_i hb;exact (bB hb).1
 ·exact h
theorem cw {code:ae} {c:dx} (n:Int) (h:c.i<=code.length):(bd code n c).2.i<=code.length:=by
 unfold bd;split
 ·exact h
 split
 ·exact sK h
 ·exact sK (sK (sK (sK h)))
theorem cK (code:ae) {n:Int} (c:dx) (h:0 < n):0<=(bd code n c).1/\(bd code n c).1 < n:=by
 unfold bd;rw [ab X];split
 ·exact ⟨Int.emod_nonneg _ X,Int.emod_lt_of_pos _ h⟩
 ·exact ⟨Int.emod_nonneg _ X,Int.emod_lt_of_pos _ h⟩
theorem Mz {s:ae} {i:Nat} {b:UInt8} (h:s[i]?=some b):(bN s)[i]?=some [.v (.int .u8 (b.toNat:Nat))]:=by simp [bN,h]
theorem vf (s:ae):(bN s).length=s.length:=by simp [bN]
attribute [local irreducible] GW GL GO YG GC GA aU aW pE sI qJ
theorem xN (code:ae) (c:dx) (hl:code.length<=1099511627776) (hc:c.i<=code.length) :
  GF prog 134 [.loc 0 0] [.box 103 (yb code c)] (.v (ii (np code c).1)) [.box 103 (yb code (np code c).2)]:=by
 have hm:=Ko (zP c);have kO:=vf code;unfold np
 cases hb:code[c.i]? with
 | some b =>
  have au:=(bB hb).1;have hr:=Mz hb;have hbt:b.toNat < 256:=b.toNat_lt
  have hd:decide ((c.i:Int) < ((bN code).length:Int))=true:=by rw [kO];simpa using au
  simp only;unfold yb;simp only;unfold F6 zP at *;refine ai func134 ntmps134 ?_;refine zdv ?_;refine OP rfl (fun Γ=>YG.P3 (n:=33) rfl rfl) ?_;refine l7 ?_;refine aj ?_;refine OP rfl (fun Γ=>YG.P3 (n:=45) rfl rfl) ?_;refine l7 ?_;refine OP rfl (fun Γ=>YG.abx rfl rfl) ?_;refine l7 ?_;refine OP rfl (fun Γ=>YG.OD rfl rfl) ?_;refine l7 ?_;refine bm ?_;refine aM (ax 0 10 .nil) ?_;refine bm ?_;refine aM (ax 0 15 .nil) ?_;refine aj ?_;refine OP rfl (fun Γ=>YG.OD rfl rfl) ?_;refine l7 ?_;exact zbU
 | none =>
  have kP:=pS hb
  have hd:decide ((c.i:Int) < ((bN code).length:Int))=false:=by rw [kO];simpa using kP
  simp only;unfold yb;simp only;unfold F6 zP at *;refine ai func134 ntmps134 ?_;refine zdv ?_;refine OP rfl (fun Γ=>YG.P3 (n:=33) rfl rfl) ?_;refine l7 ?_;refine aj ?_;refine OP rfl (fun Γ=>YG.P3 (n:=45) rfl rfl) ?_;refine l7 ?_;refine OP rfl (fun Γ=>YG.abx rfl rfl) ?_;refine l7 ?_;refine OP rfl (fun Γ=>YG.OD rfl rfl) ?_;refine l7 ?_;refine bm ?_;refine aM (ax 0 10 .nil) ?_;exact zbU
theorem cW (code:ae) (n:Int) (c:dx) (hl:code.length<=1099511627776) (hc:c.i<=code.length) :
  GF prog 77 [.loc 0 0,.v (ii n)] [.box 103 (yb code c)] (.v (ii (bd code n c).1)) [.box 103 (yb code (bd code n c).2)]:=by
 unfold bd;have I:=xN code c hl hc;have r1:=xB code c;have i1:=sK hc;generalize np code c=a at *;obtain ⟨x,c1⟩:=a;simp only at I r1 i1 |-
 by_cases wV:n<=0
 ·have hd:decide (n<=(0:Int))=true:=by simpa using wV
  rw [ah wV];refine ai func77 ntmps77 ?_;exact al
 ·have hd:decide (n<=(0:Int))=false:=by simpa using wV
  rw [ab wV]
  by_cases yS:n<=256
  ·have JM:decide (n<=(256:Int))=true:=by simpa using yS
   rw [ah yS];refine ai func77 ntmps77 ?_;refine zfI ?_;exact al
  ·have JM:decide (n<=(256:Int))=false:=by simpa using yS
   rw [ab yS];have G:=xN code c1 hl i1;have r2:=xB code c1;have i2:=sK i1;generalize np code c1=a at *;obtain ⟨y,c2⟩:=a;simp only at G r2 i2 |-;have h3:=xN code c2 hl i2;have r3:=xB code c2;have i3:=sK i2;generalize np code c2=a at *;obtain ⟨z,c3⟩:=a;simp only at h3 r3 i3 |-;have h4:=xN code c3 hl i3;have r4:=xB code c3;generalize np code c3=a at *;obtain ⟨w,c4⟩:=a;simp only at h4 r4 |-;refine ai func77 ntmps77 ?_;refine zfI ?_;refine V [0] G ?_;refine V [0] h3 ?_;refine V [0] h4 ?_;exact al
theorem DN (code:ae) (hl:code.length<=1099511627776) :
  GC prog 40 [.sl 1 (bN code)] [] fun g Δ=>∃ h,g=.loc 0 0/\Δ=[.box 103 (yb code ⟨0,h⟩)]:=by
 have kO:=vf code;refine ai func40 ntmps40 ?_;refine GW.loop (fun x:Nat=>code.length - x) (fun i fr Γ=>∃ h:Int,fr=[.sl 1 (bN code),U,U,.v (ii h),.v (ii (i:Nat)),U,U,U,U,U,U,U,U,U,U,U,U,U,U,U,U,U,U,U,U,U,U,U,U,U,U,U]/\Γ=[]/\i<=code.length/\0<=h/\h<=4398046511104) 0 ?_ ?_
 ·exact ⟨_,_,Wk.aH ao,_,rfl,rfl,aS _,by omega,by omega⟩
 ·rintro i _ _ ⟨h,rfl,rfl,hi,h0,I⟩
  rcases Nat.lt_or_ge i code.length with au | kP
  ·have hd:decide ((i:Int) < ((bN code).length:Int))=true:=by rw [kO];simpa using au
   by_cases h4:i < 4000
   ·have hd4:decide ((i:Int) < (4000:Int))=true:=by simpa using by omega
    have hr:=Mz (bV au);generalize code[i]=b at *;have hbt:b.toNat < 256:=b.toNat_lt;refine D ?_;refine GL.q (YG.OD rfl rfl) ?_;refine zaN ?_
    have hrg:=fun a=>Dl a 1073741823 ⟨by omega,by omega⟩
    exact ⟨i+1,⟨_,_,Wk.aH ao,_,rfl,rfl,au,(hrg _).1,by have:=(hrg (h * 163+((b.toNat:Nat):Int)+7)).2;omega⟩,by omega⟩
   ·have hd4:decide ((i:Int) < (4000:Int))=false:=by simpa using by omega
    exact zdE
  ·have hd:decide ((i:Int) < ((bN code).length:Int))=false:=by rw [kO];simpa using kP
   exact zdE
def uL (code:ae) (c:dx):Int × dx :=
 let k:=bd code 11 c
 if k.1 < 4 then ((bd code 24 k.2).1 - 4,(bd code 24 k.2).2)
 else if k.1=4 then (2147483646+(bd code 3 k.2).1,(bd code 3 k.2).2)
 else if k.1=5 then (-2147483649+(bd code 3 k.2).1,(bd code 3 k.2).2)
 else if k.1=6 then (9223372036854775807 - (bd code 2 k.2).1,(bd code 2 k.2).2)
 else if k.1=7 then (-9223372036854775807 - (bd code 2 k.2).1,(bd code 2 k.2).2)
 else if k.1=8 then (qJ (1 * 2 ^ (bd code 40 k.2).1.toNat),(bd code 40 k.2).2)
 else if k.1=9 then
  let a:=bd code 1000000 k.2
  let b:=bd code 1000000 a.2
  (a.1 * b.1,b.2)
 else bd code 2000000 k.2
theorem BM {code:ae} {c:dx} (h:c.i<=code.length):(uL code c).2.i<=code.length:=by
 unfold uL
 have I:=fun n=>cw (code:=code) (c:=(bd code 11 c).2) n (cw 11 h)
 simp only
 repeat (split;exact I _)
 split
 ·exact cw _ (I _)
 ·exact I _
theorem xf (code:ae) (c:dx) : -9223372036854775808<=(uL code c).1/\(uL code c).1<=9223372036854775807:=by
 unfold uL
 have I:=fun n (h:(0:Int) < n)=>cK code (bd code 11 c).2 h
 simp only;split
 ·have:=I 24 X;exact zcb
 split
 ·have:=I 3 X;exact zcb
 split
 ·have:=I 3 X;exact zcb
 split
 ·have:=I 2 X;exact zcb
 split
 ·have:=I 2 X;exact zcb
 split
 ·exact ZD _
 split
 ·have G:=I 1000000 X;have h3:=cK code (bd code 1000000 (bd code 11 c).2).2 (n:=1000000) X;have h4:=Int.mul_nonneg G.1 h3.1;have h5:=Int.mul_le_mul (Int.le_of_lt G.2) (Int.le_of_lt h3.2) h3.1 X;exact zcb
 ·have:=I 2000000 X;omega
section
variable {P:Program} {fr:List GV} {Γ:List Ob} {x y:Operand} {t t':TypeId} {a:Int}
theorem YG.adW {kk:IntKind} {n:Nat} (hx:bq fr x=.v (ii a)) (hy:bq fr y=.v (.int kk (n:Int))) (hn:n<=63):YG P (.binOp .shl t x y t') fr Γ (.v (ii (qJ (a * 2 ^ n)))) :=
 YG.v2 hx hy fun l w h k d ty pos af=>by
  have I:¬ ((n:Int) < 0):=by omega
  have G:min n 64=n:=by omega
  have h3:n < 64:=by omega
  simp [execOp,eqGuard,h,k,binOp,Op.shift,I,G,h3,IntKind.bits,qJ]
end
theorem J7 (code:ae) (c:dx) (hl:code.length<=1099511627776) (hc:c.i<=code.length) :
  GF prog 78 [.loc 0 0] [.box 103 (yb code c)] (.v (ii (uL code c).1)) [.box 103 (yb code (uL code c).2)]:=by
 unfold uL;have I:=cW code 11 c hl hc;have r1:=cK code c (n:=11) X;have i1:=cw (code:=code) 11 hc;generalize bd code 11 c=a at *;obtain ⟨k,c1⟩:=a;simp only at I r1 i1 |-
 have G:=fun n=>cW code n c1 hl i1
 have r2:=fun n (h:(0:Int) < n)=>cK code c1 h
 have i2:=fun n=>cw (code:=code) n i1
 by_cases hk:k < 4
 ·have hd:decide (k < (4:Int))=true:=by simpa using hk
  rw [ah hk];have h3:=G 24;have r3:=r2 24 X;exact zaB
 ·have hd:decide (k < (4:Int))=false:=by simpa using hk
  rw [ab hk];obtain ⟨m,rfl⟩:∃ m:Nat,k=(m:Int):=⟨k.toNat,by omega⟩
  have hm:m=4\/m=5\/m=6\/m=7\/m=8\/m=9\/m=10:=by omega
  rcases hm with rfl | rfl | rfl | rfl | rfl | rfl | rfl
  ·have h3:=G 3;have r3:=r2 3 X;rw [ah aD];exact zaB
  ·have h3:=G 3;have r3:=r2 3 X;rw [ab aD,ah aD];exact zaB
  ·have h3:=G 2;have r3:=r2 2 X;rw [ab aD,ab aD,ah aD];exact zaB
  ·have h3:=G 2;have r3:=r2 2 X;rw [ab aD,ab aD,ab aD,ah aD];exact zaB
  ·have h3:=G 40;have r3:=r2 40 X;rw [ab aD,ab aD,ab aD,ab aD,ah aD];generalize bd code 40 c1=a at *;obtain ⟨s,c2⟩:=a;simp only at h3 r3 |-;obtain ⟨n,rfl⟩:∃ n:Nat,s=(n:Int):=⟨s.toNat,by omega⟩;rw [iK];refine ai func78 ntmps78 ?_;refine zfI ?_;refine V [0] h3 ?_;refine GL.q (YG.adW rfl rfl X) ?_;refine ct ?_;exact ay
  ·have h3:=G 1000000;have r3:=r2 1000000 X;have i3:=i2 1000000;rw [ab aD,ab aD,ab aD,ab aD,ab aD,ah aD];generalize bd code 1000000 c1=a at *;obtain ⟨u,c2⟩:=a;simp only at h3 r3 i3 |-;have h4:=cW code 1000000 c2 hl i3;have r4:=cK code c2 (n:=1000000) X;generalize bd code 1000000 c2=a at *;obtain ⟨v,c3⟩:=a;simp only at h4 r4 |-;have h5:=Int.mul_nonneg r3.1 r4.1;have h6:=Int.mul_le_mul (Int.le_of_lt r3.2) (Int.le_of_lt r4.2) r4.1 X;refine ai func78 ntmps78 ?_;refine zfI ?_;refine V [0] h3 ?_;refine V [0] h4 ?_;exact al
  ·have h3:=G 2000000;rw [ab aD,ab aD,ab aD,ab aD,ab aD,ab aD];exact zaB
end Go.Xg
namespace Go.Xg
open Go.RowKit Go.Xw
theorem Hb (a:List GV):∀ (gs b:List GV) (o:Nat),sk (a++b) (a.length+o) gs=a++sk b o gs
 | [],b,o=>rfl
 | g::gs,b,o=>by rw [sk,sk,Dy,iJ,Hb a gs]
theorem Ek:∀ (gs a b:List GV),a.length=gs.length->sk (a++b) 0 gs=gs++b
 | [],[],b,_=>rfl
 | [],x::a,b,h=>by simp at h
 | g::gs,[],b,h=>by simp at h
 | g::gs,x::a,b,h=>by
  rw [sk,cons_append,bX];have:=Hb [g] gs (a++b) 0;simp only [length_cons,length_nil,cons_append,List.nil_append,dJ,Nat.add_zero] at this |-;rw [this,Ek gs a b zgc]
section
variable {P:Program} {m:Nat} {ops:Array Oper} {Q:eC} {rest:List Oper} {fr:List GV} {Γ:List Ob} {d:Option Tmp} {ty:TypeId} {pos:String} {af:Array Edge}
end
def Ob.vP:Ob->Bool
 | .vech _ _ _ _=>true
 | _=>false
def jO (β:Bt) (aY:List Nat):Bt:=fun j=>match aY[j]? with
 | some i=>β i
 | none=>.no
section
variable {B:Bs} {K:Fz} {β:Bt} {Γ:List Ob} {w:World}
theorem bC.th {K:Fz} {β b9:Bt} {vs:List Value} {gs:List GV} (h:bC K β vs gs) (hp:∀ g∈gs,g.pc=true):bC K b9 vs gs:=⟨h.1,fun i v g I G=>(h.2 i v g I G).pc (hp g (bo G))⟩
theorem kp.flat {k:Nat} {rows:List (List GV)} (h:kp k rows):∀ g∈rows.flatten,g.pc=true:=fun g hg=>by
 obtain ⟨r,I,G⟩:=List.mem_flatten.1 hg;exact (h r I).2 g G
theorem Inv.pick (h:Inv B K β Γ w) (hm:B.m=0) {aY:List Nat} {Δ:List Ob} (hl:Δ.length=aY.length) (hn:aY.Nodup)
  (hx:∀ (j:Nat) x,Δ[j]?=some x->x.vP=true/\∀ i,aY[j]?=some i->Γ[i]?=some x):Inv B K (jO β aY) Δ w:=by
 have hb:∀ i b,(jO β aY i).has b->∃ q,aY[i]?=some q/\(β q).has b:=fun i b hi=>by
  unfold jO at hi
  cases hs:aY[i]? with
  | none=>rw [hs] at hi;cases hi
  | some q=>rw [hs] at hi;exact ⟨q,rfl,hi⟩
 refine ⟨h.ext,h.kle,fun i=>by rw [h.loc i X];trivial,h.loc,h.fz,fun i x hi=>?_,fun i hi=>?_,fun i j b hi hj=>?_,fun i b hi=>?_,h.kn,h.tab.step (S:=iI) (Ext.refl w) (fun _ h=>h.elim) (df.refl K) (fun i b2 G=>?_)⟩
 ·obtain ⟨I,G⟩:=hx i x hi;have au:=(bB hi).1;have hs:aY[i]?=some (aY[i]'X):=bV _
  cases x with
  | vech E k rows v =>
   obtain ⟨xs,e1,e2,e3,e4,e5⟩:=h.ob _ _ (G _ hs);refine ⟨xs,?_,e2,e3.th e4.flat,e4,e5⟩;show jO β aY i=_;unfold jO;rw [hs];exact e1
  | _=>cases I
 ·unfold jO;rw [List.getElem?_eq_none X]
 ·exact zbl
 ·obtain ⟨q,I,G⟩:=hb i b hi;exact h.own q b G
 ·obtain ⟨q,h3,h4⟩:=hb i b2 G;exact .inl ⟨q,h4⟩
theorem Inv.view {i E k:Nat} {rows:List (List GV)} {x:Value} (h:Inv B K β Γ w) (hi:Γ[i]?=some (.vech E k rows x)):∃ K1,df K K1/\oI K1 w/\kY K1 (fun _=>.no) w/\Rel K1 (fun _=>.no) x (.sl k rows):=by
 obtain ⟨K',hK,hr,bE⟩:=h.sr hi;exact ⟨K',hK,bE.fz,⟨bE.tab.le,bE.tab.pow,bE.tab.spc,fun i b h=>by cases h⟩,hr.pc rfl⟩
theorem Inv.new (h:oI K w) (ht:kY K (fun _=>.no) w):Inv ⟨w,iI,K,fun _=>.no,0⟩ K (fun _=>.no) [] w :=
 ⟨Ext.refl w,df.refl _,eg.refl _,fun _ _=>rfl,h,fun i x h=>by simp at h,fun _ _=>rfl,fun i j b h=>zgg,fun i b h=>zgg,fun b o g h=>.inl h,ht⟩
theorem Inv.P2 {i idx o j E k T k':Nat} {rows ks:List (List GV)} {x h:Value} {r:List GV} (hI:Inv B K β Γ w) (hi:Γ[i]?=some (.vech T k rows h)) (hr:rows[idx]?=some r) (ho:r[o]?=some (.v x)) (cj:i≠j) (hj:Γ[j]?=some (.vech E k' ks x)) :
  ∃ K',df K K'/\Inv B K' β (oset (oset Γ j (.vec E k' ks.length ks)) i (.vech T k (iw rows idx o (.sl k' ks)) h)) w:=by
 obtain ⟨K',hK,kj,bE⟩:=hI.sr hj;obtain ⟨xs,I,G,h3,h4,h5⟩:=bE.ob i (.vech T k rows h) zgs;have au:=(bB hr).1
 have wW:o < k:=by rw [<-(h4 r (bo hr)).1];exact (bB ho).1
 exact ⟨K',hK,bE.swap ⟨xs,by rw [eQ];exact I,by rw [eQ];exact G,by rw [xS wW h4 au];exact bC.bX kj h3 (xh h4 hr ho),CC rfl h4,h5⟩⟩
theorem NX {rows:List (List GV)} {i o:Nat} {g:GV} {r:List GV} (hr:rows[i]?=some r):∀ q,(iw rows i o g)[q]?=if q=i then some (bX r o g) else rows[q]?:=by
 induction rows generalizing i with
 | nil=>simp at hr
 | cons x rs ih =>
  intro q
  cases i with
  | zero =>
   cases hr
   cases q with
   | zero=>simp [iw]
   | succ q=>simp [iw]
  | succ i =>
   cases q with
   | zero=>simp [iw]
   | succ q =>
    have:=ih (by simpa using hr) q;simp only [iw,List.getElem?_cons_succ,this]
    by_cases h:q=i
    ·simp [h]
    ·simp [h]
theorem Inv.KP {T k o E k' jf N:Nat} {h:Value} {raw fin:Nat->List GV} {ks:Nat->List (List GV)} {hd:Nat->Value} {jp:Nat->Nat} (hI:Inv B K β Γ w) {It:List (List GV)} (R3:Γ[jf]?=some (.vech T k It h)) (h0:It.length=N/\∀ i,i < N->It[i]?=some (raw i))
  (adB:∀ i,i < N->(raw i)[o]?=some (.v (hd i))/\bX (raw i) o (.sl k' (ks i))=fin i) (iQ:∀ i,i < N->Γ[jp i]?=some (.vech E k' (ks i) (hd i))) (cj:∀ i,i < N->jp i≠jf) (JO:∀ i i',i < N->i' < N->jp i=jp i'->i=i') :
  ∃ K' aZ rows,df K K'/\Inv B K' β aZ w/\aZ[jf]?=some (.vech T k rows h)/\rows.length=N/\(∀ i,i < N->rows[i]?=some (fin i))/\∀ q,q≠jf->(∀ i,i < N->q≠jp i)->aZ[q]?=Γ[q]?:=by
 have key:∀ n,n<=N->∃ K' aZ rows,df K K'/\Inv B K' β aZ w/\aZ[jf]?=some (.vech T k rows h)/\rows.length=N/\(∀ i,i < n->rows[i]?=some (fin i))/\(∀ i,n<=i->i < N->rows[i]?=some (raw i))/\(∀ i,n<=i->i < N->aZ[jp i]?=some (.vech E k' (ks i) (hd i)))/\∀ q,q≠jf->(∀ i,i < N->q≠jp i)->aZ[q]?=Γ[q]?:=by
  intro n
  induction n with
  | zero=>intro _;exact ⟨K,Γ,It,df.refl K,hI,R3,h0.1,fun i h=>by omega,fun i _ h=>h0.2 i h,fun i _ h=>iQ i h,fun _ _ _=>rfl⟩
  | succ n ih =>
   intro hn;obtain ⟨K',aZ,rows,a1,a2,a3,a4,a5,a6,a7,a8⟩:=ih X;have hr:=a6 n (aI _) X;obtain ⟨c1,c2⟩:=adB n X;obtain ⟨K2,b1,b2⟩:=a2.P2 a3 hr c1 (fun e=>cj n X e.symm) (a7 n (aI _) X);have au:=(bB a3).1;refine ⟨K2,_,iw rows n o (.sl k' (ks n)),a1.trans b1,b2,?_,by rw [eQ];exact a4,fun i hi=>?_,fun i hi RY=>?_,fun i hi RY=>?_,fun q hq hqj=>?_⟩
   ·rw [bQ,bQ,fb];simp [au]
   ·rw [NX hr,c2]
    by_cases e:i=n
    ·rw [ah e,e]
    ·rw [ab e];exact a5 i X
   ·rw [NX hr,ab X];exact a6 i X RY
   ·rw [bQ,bQ,fb,ab (fun e=>cj i RY e.symm),fb,ab (fun e=>by have:=JO n i X RY e;omega)];exact a7 i X RY
   ·rw [bQ,bQ,fb,ab (fun e=>hq e.symm),fb,ab (fun e=>hqj n X e.symm)];exact a8 q hq hqj
 obtain ⟨K',aZ,rows,a1,a2,a3,a4,a5,_,_,a8⟩:=key N (aI _);exact ⟨K',aZ,rows,a1,a2,a3,a4,a5,a8⟩
end
section
variable {P:Program} {fn:Func} {R:GV->List Ob->Prop} {fr:List GV} {Γ:List Ob} {e:Exit}
theorem abR {t:Tmp} {x:Value} (aY:List Nat) (Δ:List Ob) (hr:fn.results=#[.tmp t]) (he:e=.normal\/e=.ret) (hg:dc fr t=.v x) (hl:Δ.length=aY.length) (hn:aY.Nodup)
  (hx:∀ (j:Nat) x,Δ[j]?=some x->x.vP=true/\∀ i,aY[j]?=some i->Γ[i]?=some x) (h:R (.v x) Δ):wL P fn 0 R e fr Γ :=
 ⟨he,fun B K β w l hB hI hF=>⟨nth l t,K,jO β aY,.v x,Δ,by rw [results_tmp hr,kX],hI.pick hB hl hn hx,by have:=hF.nth t;rw [hg] at this;rw [Rel.eJ this];exact .v _,h⟩⟩
end
section
variable {P:Program} {fn:Func} {R:GV->List Ob->Prop} {fr:List GV} {Γ:List Ob} {e:Exit}
theorem Q2 {Γ:List Ob} {n:Nat} (h:∀ x∈Γ.drop n,x.vP=true):(Γ.drop n).length=((List.range (Γ.length - n)).map (·+n)).length/\((List.range (Γ.length - n)).map (·+n)).Nodup /\
  ∀ (j:Nat) x,(Γ.drop n)[j]?=some x->x.vP=true/\∀ i,((List.range (Γ.length - n)).map (·+n))[j]?=some i->Γ[i]?=some x:=by
 refine ⟨by simp,?_,fun j x hj=>⟨h x (bo hj),fun i hi=>?_⟩⟩
 ·unfold List.Nodup;rw [List.pairwise_map]
  exact List.nodup_range.imp fun cj he=>cj X
 ·have au:=(bB hj).1;rw [lE] at au;rw [bp,List.getElem?_range au] at hi;cases hi;rw [List.getElem?_drop] at hj;show Γ[j+n]?=some x;rw [Nat.add_comm];exact hj
theorem u0 {t:Tmp} {x:Value} (n:Nat) (hr:fn.results=#[.tmp t]) (he:e=.normal\/e=.ret) (hg:dc fr t=.v x) (ha:∀ x∈Γ.drop n,x.vP=true) (h:R (.v x) (Γ.drop n)):wL P fn 0 R e fr Γ :=
 have hd:=Q2 ha
 abR _ (Γ.drop n) hr he hg hd.1 hd.2.1 hd.2.2 h
end
section
variable {P:Program} {m:Nat} {Q:eC} {fr:List GV} {Γ:List Ob} {ops:Array Oper} {rest:List Oper} {d:Option Tmp} {op:Op} {ty:TypeId} {pos:String} {af:Array Edge}
theorem GL.IU {t:TypeId} {x:Operand} {cs:List GV} (hx:oS (bq fr x)=some cs) (hp:th cs=true) (h:GL P m ops Q rest (bR fr d (.box cs 0)) Γ):GL P m ops Q (⟨d,.box t x,ty,pos,af,none⟩::rest) fr Γ:=fun B K β w l hm hI hF=>by
 obtain ⟨vs,I,G⟩:=(hF.ev x).cells hx
 refine WL.box rfl fun b w' hn=>?_
 rw [I] at hn;obtain ⟨hle,bE⟩:=hI.xE hn G (o8 hp);exact h B _ β w' _ hm bE ((hF.mono hle (eg.refl β)).put d (Rel.box (K:=oc K b cs) (β:=β) b 0 0 cs (fun j g hg=>by rw [dJ];exact yr hg)))
theorem GL.borrow {f:FuncId} [hf:aO P f] {args:List Operand} {rJ:Array TypeId} {gs:List GV} {v:Value} (hc:GF P f gs [] (.v v) [])
  (hv:∀ B K β w l,Inv B K β Γ w->FR K β fr l->∃ K1,oI K1 w/\kY K1 (fun _=>.no) w/\bC K1 (fun _=>.no) (args.map (ev l)) gs)
  (h:GL P m ops Q rest (bR fr d (.v v)) Γ):GL P m ops Q (⟨d,.call ⟨.value (.func f),args.toArray,rJ⟩,ty,pos,af,none⟩::rest) fr Γ:=fun B K β w l hm hI hF=>by
 obtain ⟨K1,I,G,h3⟩:=hv B K β w l hI hF
 have sU:(execOp (ev l) ⟨d,.call ⟨.value (.func f),args.toArray,rJ⟩,ty,pos,af,none⟩).run P w=.ok (.enter f (args.map (ev l)).toArray) w:=by simp [execOp,resolve,ev,Deferred.ofValue,invoke,rh]
 refine WL.calls sU (hc _ K1 _ w _ rfl (Inv.new I G) h3) ?_;rintro x w' ⟨K',b9,g,aZ,bE,kj,rfl,rfl⟩;exact h B K β w' _ hm (hI.same bE.ext) (hF.put d (by rw [Rel.eJ kj];exact .v _))
theorem xj {P:Program} {w:World} {t e ty:TypeId} {i:TypeInfo} (hu:P.underlying t=some (.slice e)) (hi:P.info? e=some i) (a b:Option Addr) (n c d:Nat) (hc:n<=c) :
  (Builtin.append_ #[t,t] ty #[.slice a n c,.slice b 0 d]).run P w=.ok (.slice a n c) w:=by
 cases a <;> cases b <;> simp [Builtin.append_,run_underlying hu,sizeOf,typeInfo,hi,Builtin.lenOf,hc,Builtin.firstCells,loadCells,loadCellsFrom,storeCells]
theorem GL.abC {s x:Operand} {t e k lG:Nat} [hT:rR P t e k lG] (i:Nat) {dt:Tmp} {v:Value} {rows:List (List GV)} (hx:bq fr x=.sl k []) (hs:bq fr s=.v v) (bH:Γ[i]?=some (.vech e k rows v))
  (h:GL P m ops Q rest (bR fr (some dt) (.v v)) Γ):GL P m ops Q (⟨some dt,.call ⟨.builtin .append,#[s,x],#[t,t]⟩,ty,pos,af,none⟩::rest) fr Γ:=fun B K β w l hm hI hF=>by
 obtain ⟨hu,⟨j,z,hi,_⟩,_⟩:=hT.parts;obtain ⟨xs,o1,o2,_⟩:=hI.ob i _ bH;have uo:ev l s=v:=hF.lq hs;have vr:=hF.ev x;rw [hx] at vr;generalize w5:ev l x=vx at vr
 obtain ⟨b,d',rfl⟩:∃ b d',vx=.slice b 0 d':=by
  cases vr with
  | sl0 a c k=>exact ⟨a,c,rfl⟩
  | sl b o c _ _ hr _=>exact zaJ
 obtain ⟨a,n,c,rfl,hc⟩:∃ a n c,v=.slice a n c/\n<=c:=by
  rcases o2.2 with ⟨e1,e2⟩ | ⟨g,cap,cur,e1,_,_,e2,_⟩
  ·exact ⟨_,_,_,e1,aI _⟩
  ·exact ⟨_,_,_,e1,e2⟩
 have qy:=xj (P:=P) (w:=w) (ty:=ty) hu hi a b n c d' hc;exact WL.val (v:=.slice a n c) (w':=w) zgE (h B K β w _ hm hI (hF.put _ (.v _)))
theorem GL.abF {s x:Operand} {t e k lG:Nat} [hT:rR P t e k lG] {i n fz:Nat} {dt:Tmp} {rows:List (List GV)} (hx:bq fr x=.sl k []) (hs:bq fr s=.vec i n) (bH:Γ[i]?=some (.vec e k fz rows)) (hn:rows.length=n)
  (h:GL P m ops Q rest (bR fr (some dt) (.vec i n)) Γ):GL P m ops Q (⟨some dt,.call ⟨.builtin .append,#[s,x],#[t,t]⟩,ty,pos,af,none⟩::rest) fr Γ:=fun B K β w l hm hI hF=>by
 subst hn;obtain ⟨hu,⟨j,z,hi,_⟩,_⟩:=hT.parts;obtain ⟨h0,xs,o1,o2,_⟩:=hI.ob i _ bH;have wZ:=hF.ev s;rw [hs] at wZ
 have uo:ev l s=h0:=by
  generalize hv:ev l s=v at wZ
  cases wZ with
  | vec _ _ a c hh =>
   obtain ⟨h',m',e1,e2,e3⟩:=hh;rw [o1] at e1;cases e1;exact e3 rfl
 have vr:=hF.ev x;rw [hx] at vr;generalize w5:ev l x=vx at vr
 obtain ⟨b,d',rfl⟩:∃ b d',vx=.slice b 0 d':=by
  cases vr with
  | sl0 a c k=>exact ⟨a,c,rfl⟩
  | sl b o c _ _ hr _=>exact zaJ
 obtain ⟨a,n,c,rfl,hc⟩:∃ a n c,h0=.slice a n c/\n<=c:=by
  rcases o2.2 with ⟨e1,e2⟩ | ⟨g,cap,cur,e1,_,_,e2,_⟩
  ·exact ⟨_,_,_,e1,aI _⟩
  ·exact ⟨_,_,_,e1,e2⟩
 have qy:=xj (P:=P) (w:=w) (ty:=ty) hu hi a b n c d' hc;exact WL.val (v:=.slice a n c) (w':=w) zgE (h B K β w _ hm hI (hF.put _ (by have:=hF.ev s;rw [hs,uo] at this;exact this)))
theorem HJ {Γ:List Ob} {i:Nat} {x:Ob} (h:Γ[i]?=some x):oset Γ i x=Γ:=by
 rw [bQ];apply List.ext_getElem?;intro j;rw [fb]
 by_cases e:i=j
 ·subst e;have:=(bB h).1;rw [ah rfl,ah this,h]
 ·rw [ab e]
theorem GL.xz {s x:Operand} {t e k lG:Nat} [hT:rR P t e k lG] (i:Nat) {n:Nat} {dt:Tmp} {a0:Option Addr} {c0:Nat} {rows news:List (List GV)} (hx:bq fr x=.sl k news) (hs:bq fr s=.v (.slice a0 n c0)) (bH:Γ[i]?=some (.vech e k rows (.slice a0 n c0))) (hn:rows.length=n) (I:oG news=true)
  (hb:n+news.length<=9223372036854775807/\(n+news.length) * lG<=140737488355328)
  (h:∀ a c,GL P m ops Q rest (bR fr (some dt) (.v (.slice a (n+news.length) c))) (oset Γ i (.vech e k (rows++news) (.slice a (n+news.length) c)))) :
  GL P m ops Q (⟨some dt,.call ⟨.builtin .append,#[s,x],#[t,t]⟩,ty,pos,af,none⟩::rest) fr Γ:=by
 cases news with
 | nil =>
  have h0:=h a0 c0;rw [dN,show n+([]:List (List GV)).length=n from rfl,HJ bH] at h0;exact GL.abC i hx hs bH h0
 | cons r rs=>exact GL.nF i hx hs bH hn I rfl hb h
theorem GL.D7 {s x:Operand} {t e k lG:Nat} [hT:rR P t e k lG] {i n fz:Nat} {dt:Tmp} {rows news:List (List GV)} (hx:bq fr x=.sl k news) (hs:bq fr s=.vec i n) (bH:Γ[i]?=some (.vec e k fz rows)) (hn:rows.length=n) (I:oG news=true)
  (hb:n+news.length<=9223372036854775807/\(n+news.length) * lG<=140737488355328)
  (h:GL P m ops Q rest (bR fr (some dt) (.vec i (n+news.length))) (oset Γ i (.vec e k fz (rows++news)))) :
  GL P m ops Q (⟨some dt,.call ⟨.builtin .append,#[s,x],#[t,t]⟩,ty,pos,af,none⟩::rest) fr Γ:=by
 cases news with
 | nil =>
  rw [dN,show n+([]:List (List GV)).length=n from rfl,HJ bH] at h;exact GL.abF hx hs bH hn h
 | cons r rs=>exact GL.app hx hs bH hn I rfl hb h
theorem To:∀ (us vs:List Value),vs.length=us.length->pf vs 0 us=us:=by
 have key:∀ (us a vs:List Value),vs.length=us.length->pf (a++vs) a.length us=a++us:=by
  intro us
  induction us with
  | nil=>intro a vs h;rw [ig h];rfl
  | cons u us ih =>
   intro a vs h
   cases vs with
   | nil=>simp at h
   | cons v vs =>
    have hu:gJ (a++v::vs) a.length u=(a++[u])++vs:=by
     clear ih h
     induction a with
     | nil=>rfl
     | cons x a ih=>rw [cons_append,length_cons,gJ,ih];rfl
    have:=ih (a++[u]) vs zgc;rw [aL,List.length_singleton] at this;rw [pf,hu,this];simp
 intro us vs h;exact key us [] vs h
theorem GL.aaU {t:TypeId} {z:Value} {agg:Bool} {k:Nat} [hZ:tz P t z] [hT:Ty P t agg k] {dt ts:Tmp} {cs:List GV} {TH:TypeId} {KE:String} {GQ:Array Edge} {d2:Option Tmp} (hzk:z.cells.size=k) (hy:oS (dc fr ts)=some cs) (cj:Nat.beq ts dt=false) (lR:ly fr dt=true) (hk:cs.length=k) (I:pP cs=true) (hp:th cs=true)
  (h:GL P m ops Q rest (bR (bR fr (some dt) (.box cs 0)) d2 (.v undef)) Γ):GL P m ops Q (⟨some dt,.alloc t,ty,pos,af,none⟩::⟨d2,.store t (.tmp dt) (.tmp ts),TH,KE,GQ,none⟩::rest) fr Γ:=fun B K β w l hm hI hF=>by
 refine WL.alloc (z:=z) fun b w1 hn=>?_
 obtain ⟨us,oX,qf⟩:=(hF.nth ts).cells hy
 have DD:ts≠dt:=by intro e;subst e;simp at cj
 have hy':ev (put l (some dt) (.pointer (some ⟨b,0,none⟩))) (.tmp ts)=nth l ts:=rz DD _;have Nk:ev (put l (some dt) (.pointer (some ⟨b,0,none⟩))) (.tmp dt)=.pointer (some ⟨b,0,none⟩):=wh (qh hF lR) _
 have JZ:us.length=k:=by rw [qf.1,hk]
 refine WL.st (t:=t) (k:=k) Nk hy' hn.blk (by rw [oX];simpa using JZ) X (by rw [oX];simpa using qf.pO I) fun w2 hs=>?_
 have jB:yi z.cells 0 us=us.toArray:=by
  have:=BQ us z.cells.toList 0;rw [To us _ (by rw [Array.length_toList,hzk,JZ])] at this;exact zcm
 rw [oX,List.toList_toArray,jB] at hs;have Pb:yn w w2 b (.cells us.toArray t):=⟨hn.fresh,by rw [hs.size];exact hn.size,hs.blk,hn.ext.step hs.ext fun j hj=>.inl (by subst hj;rw [hn.fresh];exact aI _)⟩;obtain ⟨hle,bE⟩:=hI.xE Pb qf (o8 hp);exact h B _ β w2 _ hm bE (((hF.mono hle (eg.refl β)).put (some dt) (Rel.box (K:=oc K b cs) (β:=β) b 0 0 cs (fun j g hg=>by rw [dJ];exact yr hg))).put d2 (.v _))
end
end Go.Xg
set_option maxHeartbeats 2000000
namespace Go.Xg
open Go.RowKit Go.Xw Go.Proofs
open Go.Xp (Nd)
open Go.Sp (Src)
attribute [local irreducible] GW GL GO YG GC GA aU aW
def br (l:List ae):List (List GV):=l.map fun s=>[GV.v (sv s)]
def be (l:List Int):List (List GV):=l.map fun i=>[GV.v (ii i)]
def Hd (n:Nat) (h:Value):Prop:=∃ a c,h=.slice a n c
def ei (x:Nd) (h:Value):List GV:=[.v (ii x.kind),.v (ii x.at_),.v (ii x.n),.v (sv x.s),.v h]
def kz (x:Nd) (h:Value):Ob:=.vech 3 1 (be x.kids) h
theorem LA {α:Type} {f:α->Value->Ob} (hf:∀ a h,(f a h).vP=true) {l:List α} {hs:List Value}:∀ x∈List.zipWith f l hs,x.vP=true:=fun x hx=>by
 obtain ⟨i,hi⟩:=List.getElem?_of_mem hx;rw [List.getElem?_zipWith] at hi;split at hi
 ·cases hi;exact hf _ _
 ·cases hi
end Go.Xg
