/- Part 7 of proofs that are told in their last texts. -/
import Derived.Test.YtfdcdcleipmmdaaGreatDoorQ4
import Derived.ProofKit
import Derived.Below
import Derived.ChangeSame
import Derived.Test.YtfdcdcleipmmdaaGreatDoorQ5
import Derived.Lib.Builder
import Derived.Lib.UnsafeStr
import Derived.Shelf.Strings.Builder1
import Derived.Shelf.Strings.Builder2
import Derived.Shelf.Small.Bits
import Derived.Shelf.Small.Strs
import Derived.Shelf.Strings.BuilderF
import Derived.Shelf.Strconv.Itoa0
import Derived.Shelf.Strconv.Itoa1
import Derived.Shelf.LaysM
import Derived.Shelf.Strconv.Itoa2
import Derived.Shelf.Strconv.Itoa3
import Derived.Shelf.Strings.Search1
import Derived.Shelf.Strings.Search2
import Derived.Shelf.Strings.Search3
import Derived.Shelf.Strings.Shaped
import Derived.Shelf.Sort.Plain
import Derived.Shelf.Strings.Prefix
import Derived.Shelf.Strings.Fields
import Derived.Shelf.Strings.SplitShaped
import Derived.Shelf.Unicode.Latin
import Derived.Shelf.Unicode.Is16White
import Derived.Shelf.Unicode.IsSpaceAny
import Derived.Shelf.Unicode.Is16Any
import Derived.Shelf.Unicode.Is32Any
import Derived.Shelf.Unicode.ExclAny
import Derived.Ground.Names2Prog
import Derived.Shelf.Slices.CompactI
import Derived.Shelf.Slices.SearchI
import Derived.Shelf.Slices.Cells
import Derived.Shelf.Slices.In.SortNone
import Derived.Test.YtfdcdcleipmmdaaGreatDoorProg
import Derived.Test.YtfdcdcleipmmdaaGreatDoorQ1
import Derived.Test.YtfdcdcleipmmdaaGreatDoorQ2
import Derived.Test.YtfdcdcleipmmdaaGreatDoorQ6
import Derived.Lib.OwnBridge
import Derived.Lib.AppendIntMem
import Derived.Laws.StructEq
open List (all_append all_cons all_eq_false all_nil flatten_cons getD_cons_succ getD_cons_zero getElem_mem length_cons length_nil map_nil mem_singleton sum_cons)
set_option linter.unusedVariables false
set_option linter.unusedSimpArgs false
set_option maxRecDepth 100000
namespace Go.Xw
open Go.RowKit Go.WideShapes Go.ChangeShapes
section
variable {H:Type} {enc:TypeId × Value->H} {P:Program}
theorem pY {f:Func} {s:ChangeSpec} {apart fresh handsOn again:Bool} {W W':World} {args:Array Value} {v:Value} {ds gs:List (DataW H)} {before pa pv:List MemPlace}
  (hW:DataW.Whole enc P f.params.toList s.vars apart W args.toList ds gs before)
  (V9:∀ (b:Nat) (sp:Nat->Bool) (hd:Bool),DataW.TrodAll enc P W' b sp hd f.resultTypes.toList (v.resultList f.resultTypes.size) (s.fn H (ds++gs)).results [])
  (vi:∀ sp:Nat->Bool,(∀ p∈before,sp p.block=true)->DataW.TrodAll enc P W' 0 sp true f.params.toList args.toList (s.fn H (ds++gs)).args pa)
  (SR:∀ sp:Nat->Bool,(∀ p∈before,sp p.block=true)->DataW.TrodVars enc P W' sp s.vars (s.fn H (ds++gs)).vars pv)
  (E9:before=pa++pv) (hb:Below W.heap.size W W')
  (eT:∀ (j:Nat) (t:TypeId) (r:Value),f.resultTypes[j]?=some t->(v.resultList f.resultTypes.size)[j]?=some r->Value.okWide P W' .any 0 t r) :
  s.post enc P f apart fresh handsOn again W args v W':=by
 have ar:∀ p∈before,p.block < W.heap.size:=fun p hp=>hW.lt p hp
 have hold:∀ p∈before,(fun b=>decide (b < W.heap.size)) p.block=true:=fun p hp=>by simpa using ar p hp
 refine ⟨ds,gs,before,[],pa,pv,hW,V9 _ _ _,vi _ hold,SR _ hold,World.keptBut_mono (fun p hp=>⟨hp,?_⟩) (hb.frame (·∈before)),fun _=>?_⟩
 ·rw [E9,List.mem_append] at hp;exact Or.inr hp
 ·obtain ⟨_,_,_,_,_,hz,hn⟩:=hW;refine ⟨eT,_,_,([]++pa)++pv,⟨[]++pa,pv,trodAll_append (vi _ (fun _ _=>rfl)) (V9 _ _ _),SR _ (fun _ _=>rfl),rfl,?_,?_⟩,?_⟩
  ·intro b off hp
   have kC:MemPlace.cell b off∈before:=by rw [E9];simpa using hp
   rw [hb.frozen (ar _ kC)];exact hz b off kC
  ·intro ha;have:=hn ha;rw [E9] at this;simpa using this
  ·intro p hp _;rw [E9];simpa using hp
end
end Go.Xw
namespace Go.Xg
open Go.RowKit Go.Xw
class Dt (P:Program) (t:TypeId):Prop where
 und:∃ e j,P.underlying t=some (.pointer e)/\P.info? e=some j
theorem Dt.mk' {P:Program} {t e:TypeId} (h:P.underlying t=some (.pointer e)) (k:(P.info? e).isSome=true):Dt P t:=⟨e,(P.info? e).get k,h,by simp⟩
section
variable {P:Program} {m:Nat} {Q:eu} {fr:List GV} {Γ:List Ob} {ops:Array Oper} {rest:List Oper} {d:Option Tmp} {op:Op} {ty:TypeId} {pos:String} {af:Array Edge}
theorem YG.Cu {x y:Operand} {t t':TypeId} [hT:Dt P t] {i o:Nat} (hx:a6 fr x=.loc i o) (hy:a6 fr y=.v (.pointer none)):YG P (.binOp .eql t x y t') fr Γ (.v (.bool false)):=fun B K β w l hI hF=>by
 have h:=hF.ev x;rw [hx] at h;generalize hv:ev l x=v at h
 cases h with
 | loc _ _ b hb =>
  obtain ⟨e,j,I,F⟩:=hT.und
  have hp:P.pointee t=e:=by simp [Program.pointee,I]
  have:=run_eql_pointer_nil (P:=P) w t (some ⟨b,o,none⟩) (by rw [hp];exact I);refine ⟨_,fun d ty pos af=>?_,.v _⟩;simp [execOp,eqGuard,hv,hF.ij hy,this]
theorem YG.CZ {x y:Operand} {t t':TypeId} [hT:Dt P t] {i o:Nat} (hx:a6 fr x=.loc i o) (hy:a6 fr y=.loc i o):YG P (.binOp .neq t x y t') fr Γ (.v (.bool false)):=fun B K β w l hI hF=>by
 have h:=hF.ev x;rw [hx] at h;have h':=hF.ev y;rw [hy] at h';generalize hv:ev l x=v at h;generalize CP:ev l y=v' at h'
 cases h with
 | loc _ _ b hb =>
  cases h' with
  | loc _ _ b' bo =>
   rw [hb] at bo;cases bo;obtain ⟨e,j,I,F⟩:=hT.und;have:=Lib.run_neq_ptr_same (P:=P) w ⟨b,o,none⟩ I F;refine ⟨_,fun d ty pos af=>?_,.v _⟩;simp [execOp,eqGuard,hv,CP,this]
theorem Inv.again {B:Bs} {K:Fz} {β:Bt} {Γ:List Ob} {w w':World} {i E k:Nat} {rows:List (List GV)} {x:Value} {xs:List Value} (h:Inv B K β Γ w) (hi:Γ[i]?=some (.vech E k rows x)) (ho:iH w' 0 E k x rows.length xs) (hr:bg K β xs rows.flatten)
  (hx:Ext (fun b=>x.ownBlock=some b) w w'):Inv B K β Γ w':=by
 obtain ⟨xs0,I,F,h3,h4,h5⟩:=h.ob i _ hi
 have dQ:∀ b,x.ownBlock=some b->(β i).blk=some b:=fun b hb=>by rw [I];exact hb
 refine ⟨h.ext.step hx (fun j hj=>(h.own i j (dQ j hj)).symm),h.kle,h.ble,h.loc,h.fz.ext hx (fun b o g hg he=>by rw [h5 b he o] at hg;cases hg),fun j y hj=>?_,h.out,h.dis,h.own,h.kn,h.tab.step hx (fun j hj=>⟨i,dQ j hj⟩) (c6.refl K) (fun i b2 h=>.inl ⟨i,h⟩)⟩
 by_cases pd:j=i
 ·subst pd;rw [hi] at hj;cases hj;exact ⟨xs,I,ho,hr,h4,h5⟩
 ·exact (h.ob j y hj).ext hx (fun b hb he=>pd (h.dis j i b hb (dQ b he))) (c6.refl K) (dJ.refl β) rfl (fun _ _ _ h=>h)
theorem GL.XB {s x:Operand} {t u e:Nat} [hT:Em P t e] [hU:qJ P u] (i:Nat) {n:Nat} {dt:Tmp} {v:Value} {rows:List (List GV)} {str:ah} (hx:a6 fr x=.v (sv str)) (hs:a6 fr s=.v v) (bJ:Γ[i]?=some (.vech e 1 rows v)) (hn:rows.length=n) (cj:str.isEmpty=false)
  (hb:n+str.length<=140737488355328)
  (h:∀ a c,GL P m ops Q rest (bz fr (some dt) (.v (.slice a (n+str.length) c))) (oset Γ i (.vech e 1 (rows++cx str) (.slice a (n+str.length) c)))) :
  GL P m ops Q (⟨some dt,.call ⟨.builtin .append,#[s,x],#[t,u]⟩,ty,pos,af,none⟩::rest) fr Γ:=fun B K β w l hm hI hF=>by
 subst hn
 have cj:str≠[]:=by intro h0;rw [h0] at cj;cases cj
 obtain ⟨xs,o1,o2,o3,o4,o5⟩:=hI.ob i _ bJ;have rF:ev l s=v:=hF.ij hs
 have lE:(cx str).flatten=str.map fun c=>GV.v (.int .u8 (c.toNat:Int)):=by
  unfold cx;clear hx cj hb h;generalize str=s
  induction s with
  | nil=>rfl
  | cons c r ih=>simp only [List.map_cons,flatten_cons,ih];rfl
 have hlen:(cx str).length=str.length:=by simp [cx]
 refine WL.Du (base:=0) (v:=v) (n:=rows.length) (xs:=xs) (str:=str) rF o2 (hF.ij hx) hb (aX _) ?_;intro v' w' how gU pb uB
 obtain ⟨K',hK,rG,bA⟩:=(hI.zm bJ).grow (fz:=0) (qk bJ) o1 ⟨o2,o3⟩ (news:=cx str) (ns:=ly str) (by rw [hlen];exact how) gU pb (by rw [lE];exact (by
   have:(str.map fun c=>GV.v (.int .u8 (c.toNat:Int)))=kR (ly str):=by simp [kR,ly]
   rw [this];exact bg.self)) (fun r hr=>by
   simp only [cx,tI] at hr;obtain ⟨c,_,rfl⟩:=hr
   exact ⟨rfl,fun g hg=>by rw [mem_singleton] at hg;subst hg;rfl⟩) (by intro h0;exact cj (List.map_eq_nil_iff.1 h0)) (fun b bo o v ho hv=>by omega)
 rw [<-bD,oD] at bA;obtain ⟨a,c,qQ,o8⟩:=bA.vK (qk bJ);rw [oD] at o8;obtain ⟨a',c',rfl⟩:=how.shape;rw [bq] at qQ;simp only [aZ,hlen] at qQ o8 rG;cases qQ;exact h _ _ B K' _ w' _ hm o8 ((hF.mono hK rG).put (some dt) (.v _))
theorem GL.XA {s x:Operand} {t u e:Nat} [hT:Em P t e] [hU:qJ P u] (i:Nat) {rows:List (List GV)} {v:Value} (hx:a6 fr x=.v (sv [])) (hs:a6 fr s=.v v) (bJ:Γ[i]?=some (.vech e 1 rows v)) (hb:rows.length<=140737488355328)
  (h:GL P m ops Q rest (bz fr d (.v v)) Γ):GL P m ops Q (⟨d,.call ⟨.builtin .append,#[s,x],#[t,u]⟩,ty,pos,af,none⟩::rest) fr Γ:=fun B K β w l hm hI hF=>by
 obtain ⟨xs,o1,o2,o3,o4,o5⟩:=hI.ob i _ bJ;have rF:=hF.ij hs;have sH:=hF.ij hx;obtain ⟨hu,i',hi,hz,cB,yG⟩:=hT.is;have wu:(⟨([]:ah).toArray⟩:ByteArray).size=0:=rfl;obtain ⟨v',w',hr,F,h3,h4⟩:=Lib.run_append_own_string (P:=P) w 0 t u ty e i' hu hU.und hi hz cB yG v rows.length xs o2 ⟨([]:ah).toArray⟩ (by rw [wu];simp only [maxLen];omega) (by rw [wu];omega) (aX _)
 have CP:v'=v:=by
  rcases o2.2 with ⟨rfl,h6⟩ | ⟨g,cap,cur,rfl,ot,hg,pI,x5,fm,CL⟩
  ·exact h4.2 ⟨rfl,rfl⟩
  ·have VT:cur.size=cap:=by simpa using fm
   have eE:=Lib.run_append_room_string (P:=P) w t u ty e i' hu hU.und hi cB g rows.length cap cur hg ⟨([]:ah).toArray⟩ (by rw [wu];omega) (by unfold maxLen at x5;rw [wu];omega);rw [hr] at eE;cases eE;rfl
 subst CP;have nO:(Builtin.append_ #[t,u] ty #[v',sv []]).run P w=.ok v' w':=hr;have fm:Lib.strCells ⟨([]:ah).toArray⟩=[]:=rfl;rw [fm,iy] at F;have gU:Ext (fun b=>v'.ownBlock=some b) w w':=⟨h3.os,h3.tape,h3.output,h3.size,fun j hj hn=>h3.block j hj fun he=>hn he.symm⟩;have bA:=hI.again bJ F o3 gU;exact WL.val (v:=v') (w':=w') (by simp [execOp,resolve,invoke,builtin,rF,sH,nO]) (h B K β w' _ hm bA (hF.put d (.v _)))
theorem YG.wN {x:Operand} {t:TypeId} (i:Nat) {E n c:Nat} {a:Option Addr} {rows:List (List GV)} (hx:a6 fr x=.v (.slice a n c)) (bJ:Γ[i]?=some (.vech E 1 rows (.slice a n c))) (hn:rows.length=n) (hp:Nat.blt 0 n=true) :
  YG P (.call ⟨.builtin .unsafeSliceData,#[x],#[t]⟩) fr Γ (.vp i n 1 0 0):=fun B K β w l hI hF=>by
 subst hn
 have hp:0 < rows.length:=by simpa using hp
 obtain ⟨xs,I,F,h3,h4,h5⟩:=hI.ob i _ bJ;have hv:=hF.ij hx
 rcases F.2 with ⟨h8,h9⟩ | ⟨g,cap,cur,h8,_,hg,pI,_⟩
 ·omega
 ·cases h8
  have hr:=fun ts ty=>Lib.run_unsafeSliceData_row (P:=P) (w:=w) ts ty ⟨g,0,none⟩ rows.length c ag
  exact ⟨.pointer (some ⟨g,0,none⟩),fun d ty pos af=>by simp [execOp,resolve,invoke,builtin,hv,hr],.vp i _ 1 0 0 _ ⟨_,_,I,aH _,fun _=>⟨g,rfl,by simp⟩⟩⟩
theorem GL.PB {x y:Operand} {pt it e:TypeId} (i:Nat) {str:ah} {rows:List (List GV)} {v:Value} (hp:P.underlying pt=some (.pointer e)) (hc:P.cellsOf e=1) (hx:a6 fr x=.vp i str.length 1 0 0) (hy:a6 fr y=.v (ii str.length)) (bJ:Γ[i]?=some (.vech e 1 rows v)) (mf:rows=cx str)
  (cj:str.isEmpty=false) (hb:str.length<=140737488355328)
  (h:GL P m ops Q rest (bz fr d (.v (sv str))) (oset Γ i .lost)):GL P m ops Q (⟨d,.call ⟨.builtin .unsafeString,#[x,y],#[pt,it]⟩,ty,pos,af,none⟩::rest) fr Γ:=fun B K β w l hm hI hF=>by
 have cj:str≠[]:=by intro h0;rw [h0] at cj;cases cj
 subst mf;obtain ⟨xs,o1,o2,o3,o4,o5⟩:=hI.ob i _ bJ
 have hlen:(cx str).length=str.length:=by simp [cx]
 have hr:=hF.ev x;rw [hx] at hr;have Wm:=hF.ij hy;generalize hv:ev l x=u at hr
 cases hr with
 | vp _ _ _ _ _ _ hh =>
  obtain ⟨h0,mm,e1,e2,e3⟩:=hh;rw [e1] at o1;cases o1;obtain ⟨b,Sy,rfl⟩:=e3 hlen
  rcases o2.2 with ⟨h8,h9⟩ | ⟨g,cap,cur,h8,_,hg,pI,x5,fm,CL⟩
  ·rw [hlen] at h9;exact absurd (gQ h9) cj
  ·subst h8;simp only [Value.ownBlock,Option.some.injEq] at Sy;subst Sy
   have oz:xs=ly str:=by
    have lE:(cx str).flatten=kR (ly str):=by
     have:(cx str).flatten=str.map fun c=>GV.v (.int .u8 (c.toNat:Int)):=by
      unfold cx;generalize str=s
      induction s with
      | nil=>rfl
      | cons c r ih=>simp only [List.map_cons,flatten_cons,ih];rfl
     rw [this];simp [kR,ly]
    rw [lE] at o3;apply List.ext_getElem
    ·have:=o3.1;simpa [kR] using this
    ·intro j I F;have:=o3.2 j xs[j] (.v (ly str)[j]) (by simp [I]) (by simp [kR,F]);exact Rel.gy this
   have mc:∀ j y,str[j]?=some y->w.cell? ((⟨g,0,none⟩:Addr).add j)=some (.int .u8 y.toNat):=fun j y hy=>by
    have:=World.ownsRow.cells (g:=g) o2 rfl j (.int .u8 y.toNat) (by rw [oz];simp [ly,hy]);exact this
   have aaJ:(cx str).length<=cur.size:=by rw [fm];omega
   have nO:=Lib.run_unsafeString_row (P:=P) w pt it ty e hp hc g cur.size (by simp [World.shape?,hg]) str cj ag ag mc
   have gU:Ext (·=g) w (w.freeze ⟨g,0,none⟩ str.length):=by
    have:=Lib.below_freeze (Below.refl 0 w) (p:=⟨g,0,none⟩) (aX g) str.length
    exact ⟨this.os,this.tape,this.output,this.size,fun k hk hn=>by
     unfold World.freeze;split
     ·rfl
     ·simp only [Array.getElem?_modify]
      rw [ab (fun he=>hn he.symm)]⟩
   have dQ:(β i).blk=some g:=by rw [e1];rfl
   have bA:Inv B K β (oset Γ i .lost) (w.freeze ⟨g,0,none⟩ str.length):=by
    refine ⟨hI.ext.step gU (fun j hj=>by subst hj;exact (hI.own i _ dQ).symm),hI.kle,hI.ble,hI.loc,hI.fz.ext gU (fun b o g' la he=>by subst he;rw [o5 _ rfl o] at la;cases la),fun j y hj=>?_,fun j hj=>hI.out j (by simpa [bD] using hj),hI.dis,hI.own,hI.kn,hI.tab.step gU (fun j hj=>⟨i,by subst hj;exact dQ⟩) (c6.refl K) (fun i b2 h=>.inl ⟨i,h⟩)⟩;rw [bD,iz] at hj;split at hj
    ·rename_i fx;split at hj
     ·cases hj;subst fx
      intro b bo;rw [dQ] at bo;cases bo;have:=sL hg;exact xS this gU.size
     ·cases hj
    ·rename_i fx;exact (hI.ob j y hj).ext gU (fun b hb he=>by subst he;exact fx (hI.dis i j _ dQ hb)) (c6.refl K) (dJ.refl β) rfl (fun _ _ _ h=>h)
   exact WL.val (v:=sv str) (w':=w.freeze ⟨g,0,none⟩ str.length) (by simp [execOp,resolve,invoke,builtin,hv,Wm,nO,sv]) (h B K β _ _ hm bA (hF.put d (.v _)))
theorem Inv.Lh {B:Bs} {K:Fz} {β:Bt} {Γ:List Ob} {w:World} {x:Bk} {y:Ob} (h:Inv B K β Γ w) (hd:∀ b,x.blk=some b->(∀ i,(β i).blk≠some b)/\B.w0.heap.size<=b/\(b≠1/\b≠2))
  (ho:lj K (fC β Γ.length x) w Γ.length y) (hold:dJ β (fC β Γ.length x)):Inv B K (fC β Γ.length x) (Γ++[y]) w:=by
 refine ⟨h.ext,h.kle,h.ble.trans hold,h.loc,h.fz,fun i z hi=>?_,fun i hi=>?_,fun i j b hi hj=>?_,fun i b hi=>?_,h.kn,⟨h.tab.le,h.tab.pow,h.tab.spc,fun i b hi=>?_⟩⟩
 ·by_cases qR:i < Γ.length
  ·rw [kl qR] at hi;exact (h.ob i z hi).ext (S:=jc) (Ext.refl w) (fun _ _ h=>h) (c6.refl K) hold (bM ag) (fun _ _ _ h=>h)
  ·have:i=Γ.length:=by have:=(bh hi).1;simp at this;omega
   subst this;simp at hi;subst hi;exact ho
 ·simp at hi;rw [bM ag];exact h.out i ag
 ·by_cases I:i=Γ.length <;> by_cases F:j=Γ.length
  ·omega
  ·subst I;rw [bq] at hi;rw [bM F] at hj;exact absurd hj ((hd b hi).1 j)
  ·subst F;rw [bq] at hj;rw [bM I] at hi;exact absurd hi ((hd b hj).1 i)
  ·rw [bM I] at hi;rw [bM F] at hj;exact h.dis i j b hi hj
 ·rcases mO hi with I | I
  ·exact .inr (hd b I).2.1
  ·exact h.own i b I
 ·rcases mO hi with I | I
  ·exact (hd b I).2.2
  ·exact h.tab.free i b I
theorem YG.YC {x lo:Operand} {t e:TypeId} {k:Nat} [hT:nT P t e k] {rows:List (List GV)} {kk:IntKind} {i:Nat} (hx:a6 fr x=.sl k rows) (jg:a6 fr lo=.v (.int kk i)) (hi:Nat.blt i rows.length=true):YG P (.slice t x (some lo) none none) fr Γ (.sl k (rows.drop i)):=fun B K β w l hI hF=>by
 have hi:i < rows.length:=by simpa using hi
 have h:=hF.ev x;rw [hx] at h;have J2:=hF.ij jg;generalize hv:ev l x=v at h
 cases h with
 | sl0 a c=>simp at hi
 | sl b o c _ _ h hc =>
  refine ⟨.slice (some ⟨b,o+i * k,none⟩) (rows.length - i) (c - i),fun d ty pos af=>?_,?_⟩
  ·have o9:¬ (c=i):=by omega
   have hle:(i:Int)<=(rows.length:Int):=by omega
   simp [execOp,Instr.sliceAt,Instr.slice,Instr.sliceBounds,Instr.sliceBound,asIntOf,hv,J2,run_underlying hT.und,jB hT.siz,o9,Nat.le_of_lt hi,qK]
  ·have:=Rel.sl (K:=K) (β:=β) b (o+i * k) (c - i) k (rows.drop i) (fun j r hr=>?_) (by simp;omega)
   ·rw [iM] at this;exact this
   ·rw [List.getElem?_drop] at hr;refine ⟨(h (i+j) r hr).1,fun q g hg=>?_⟩;have:=(h (i+j) r hr).2 q g hg;rw [Nat.add_mul] at this;rw [show o+i * k+j * k+q=o+(i * k+j * k)+q by omega];exact this
theorem YG.zi {x lo:Operand} {t e:TypeId} {k:Nat} [hT:nT P t e k] {rows:List (List GV)} {kk:IntKind} {n:Int} (i:Nat) (hx:a6 fr x=.sl k rows) (jg:a6 fr lo=.v (.int kk n)) (hn:n=(i:Int)) (hi:Nat.blt i rows.length=true):YG P (.slice t x (some lo) none none) fr Γ (.sl k (rows.drop i)):=by
 subst hn;exact YG.YC hx jg hi
end
end Go.Xg
namespace Go.Proofs
open Go.Shelf
theorem cJ {α:Type} {a:Option α} {b c:α} (h:a=some b) (k:b=c:=by kernel_rfl):a=some c:=h.trans (congrArg some k)
def Tryz.AK:Go.Shelf.Ren:=⟨fun | 165=>197 | 240=>230 | 241=>231 | 276=>249 | 277=>250 | n=>n,fun | 70=>214 | 3=>3 | 0=>0 | 4=>4 | 9=>9 | 20=>20 | 72=>216 | 37=>179 | 164=>246 | 5=>5 | n=>n,fun | n=>n⟩
theorem Tryz.Uj:Go.Proofs.Lays.n165 Tryz.prog Tryz.AK:={
 mixed:=by kernel_rfl
 f165:=cJ Tryz.func197
 f240:=cJ Tryz.func230
 f241:=cJ Tryz.func231
 f276:=cJ Tryz.func249
 f277:=cJ Tryz.func250
 t0:=Tryz.underlying0
 a0:=Tryz.isAgg0
 z0:=Tryz.sizeOf0
 v0:=Tryz.zeroValue0
 t3:=Tryz.underlying3
 a3:=Tryz.isAgg3
 z3:=Tryz.sizeOf3
 v3:=Tryz.zeroValue3
 t4:=Tryz.underlying4
 a4:=Tryz.isAgg4
 z4:=Tryz.sizeOf4
 v4:=Tryz.zeroValue4
 t9:=Tryz.underlying9
 a9:=Tryz.isAgg9
 z9:=Tryz.sizeOf9
 v9:=Tryz.zeroValue9
 t20:=Tryz.underlying20
 a20:=Tryz.isAgg20
 z20:=Tryz.sizeOf20
 v20:=Tryz.zeroValue20
 t37:=Tryz.underlying179
 a37:=Tryz.isAgg179
 z37:=Tryz.sizeOf179
 v37:=Tryz.zeroValue179
 t70:=Tryz.underlying214
 a70:=Tryz.isAgg214
 z70:=Tryz.sizeOf214
 v70:=Tryz.zeroValue214
 t72:=Tryz.underlying216
 a72:=Tryz.isAgg216
 z72:=Tryz.sizeOf216
 v72:=Tryz.zeroValue216
 t164:=Tryz.underlying246
 a164:=Tryz.isAgg246
 z164:=Tryz.sizeOf246
 v164:=Tryz.zeroValue246 }
theorem Tryz.Af:Builder.Extra Tryz.prog Tryz.AK:={
 sizeBuilder:=by kernel_rfl
 liesBuilder:=by kernel_rfl
 t5:=Tryz.underlying5
 a5:=Tryz.isAgg5
 z5:=Tryz.sizeOf5
 v5:=Tryz.zeroValue5
 infoByte:=by kernel_rfl
 cellsByte:=by kernel_rfl
 sizeByte:=by kernel_rfl
 neB5:=by decide }
open Go.RowKit in
theorem Tryz.Builder_Grow_fresh (B b n:Nat) (w:World) (hB:B<=b) (dQ:w.heap[b]?=some (.cells #[.pointer none,.slice none 0 0] 216 (0,0))) (hBw:B<=w.heap.size) (hn:n<=281474976710656) :
  Calls Tryz.prog 197 #[.pointer (some ⟨b,0,none⟩),.int .i64 n] w fun e w'=>e=.returned (.tuple #[])/\(Lib.BuilderAt 216 5 B b (.pointer (some ⟨b,0,none⟩)) [] w'/\Below B w w'):=Any.Builder_Grow_fresh Tryz.Uj Tryz.Af B b n w hB dQ hBw hn
def Tryz.I5:Go.Shelf.Ren:=⟨fun | 137=>165 | 217=>204 | 266=>233 | n=>n,fun | 9=>9 | 5=>5 | 3=>3 | n=>n,fun | n=>n⟩
theorem Tryz.Uh:Go.Proofs.Lays.n137 Tryz.prog Tryz.I5:={
 mixed:=by kernel_rfl
 f137:=cJ Tryz.func165
 f217:=cJ Tryz.func204
 f266:=cJ Tryz.func233
 t3:=Tryz.underlying3
 a3:=Tryz.isAgg3
 z3:=Tryz.sizeOf3
 v3:=Tryz.zeroValue3
 t5:=Tryz.underlying5
 a5:=Tryz.isAgg5
 z5:=Tryz.sizeOf5
 v5:=Tryz.zeroValue5
 t9:=Tryz.underlying9
 a9:=Tryz.isAgg9
 z9:=Tryz.sizeOf9
 v9:=Tryz.zeroValue9 }
open Go.RowKit in
theorem Tryz.strings_IndexByte (s:ByteArray) (c:Int) (w:World) :
  Calls Tryz.prog 165 #[.string s,.int .u8 c] w fun e w'=>e=.returned (.int .i64 (Lib.indexByte s.data.toList c.toNat.toUInt8))/\w'=w:=Any.strings_IndexByte Tryz.Uh s c w
def Tryz.Ww:Go.Shelf.Ren:=⟨fun | 246=>229 | 283=>245 | 284=>246 | 285=>247 | 286=>248 | 129=>143 | 317=>257 | 318=>258 | 319=>259 | 320=>260 | 337=>265 | 338=>266 | n=>n,fun | 2=>2 | 3=>3 | 9=>9 | 4=>4 | 171=>242 | 0=>0 | 53=>162 | 37=>179 | 5=>5 | 173=>244 | 212=>254 | 51=>160 | 20=>20 | 213=>255 | 46=>124 | 232=>266 | 233=>267 | n=>n,fun | 17=>1 | 18=>4 | 19=>5 | n=>n⟩
def Tryz.Wv:Go.Shelf.Ren:=⟨fun | 243=>196 | 246=>229 | 283=>245 | 284=>246 | 285=>247 | 286=>248 | 129=>143 | 317=>257 | 318=>258 | 319=>259 | 320=>260 | 337=>265 | 338=>266 | n=>n,fun | 3=>3 | 9=>9 | 2=>2 | 4=>4 | 171=>242 | 0=>0 | 53=>162 | 37=>179 | 5=>5 | 173=>244 | 212=>254 | 51=>160 | 20=>20 | 213=>255 | 46=>124 | 232=>266 | 233=>267 | n=>n,fun | 17=>1 | 18=>4 | 19=>5 | n=>n⟩
def Tryz.HC:Go.Shelf.Ren:=⟨fun | 171=>158 | 243=>196 | 246=>229 | 283=>245 | 284=>246 | 285=>247 | 286=>248 | 129=>143 | 317=>257 | 318=>258 | 319=>259 | 320=>260 | 337=>265 | 338=>266 | n=>n,fun | 3=>3 | 9=>9 | 2=>2 | 4=>4 | 171=>242 | 0=>0 | 53=>162 | 37=>179 | 5=>5 | 173=>244 | 212=>254 | 51=>160 | 20=>20 | 213=>255 | 46=>124 | 232=>266 | 233=>267 | n=>n,fun | 17=>1 | 18=>4 | 19=>5 | n=>n⟩
theorem Tryz.QW:Go.Proofs.LaysM.n171 Tryz.prog Tryz.HC:={
 mixed:=by kernel_rfl
 f129:=cJ Tryz.func143
 f171:=cJ Tryz.func158
 f243:=cJ Tryz.func196
 f246:=cJ Tryz.func229
 f283:=cJ Tryz.func245
 f284:=cJ Tryz.func246
 f285:=cJ Tryz.func247
 f286:=cJ Tryz.func248
 f317:=cJ Tryz.func257
 f318:=cJ Tryz.func258
 f319:=cJ Tryz.func259
 f320:=cJ Tryz.func260
 f337:=cJ Tryz.func265
 f338:=cJ Tryz.func266
 t0:=Tryz.underlying0
 a0:=Tryz.isAgg0
 z0:=Tryz.sizeOf0
 v0:=Tryz.zeroValue0
 t2:=Tryz.underlying2
 a2:=Tryz.isAgg2
 z2:=Tryz.sizeOf2
 v2:=Tryz.zeroValue2
 t3:=Tryz.underlying3
 a3:=Tryz.isAgg3
 z3:=Tryz.sizeOf3
 v3:=Tryz.zeroValue3
 t4:=Tryz.underlying4
 a4:=Tryz.isAgg4
 z4:=Tryz.sizeOf4
 v4:=Tryz.zeroValue4
 t5:=Tryz.underlying5
 a5:=Tryz.isAgg5
 z5:=Tryz.sizeOf5
 v5:=Tryz.zeroValue5
 t9:=Tryz.underlying9
 a9:=Tryz.isAgg9
 z9:=Tryz.sizeOf9
 v9:=Tryz.zeroValue9
 t20:=Tryz.underlying20
 a20:=Tryz.isAgg20
 z20:=Tryz.sizeOf20
 v20:=Tryz.zeroValue20
 t37:=Tryz.underlying179
 a37:=Tryz.isAgg179
 z37:=Tryz.sizeOf179
 v37:=Tryz.zeroValue179
 t46:=Tryz.underlying124
 a46:=Tryz.isAgg124
 z46:=Tryz.sizeOf124
 v46:=Tryz.zeroValue124
 t51:=Tryz.underlying160
 a51:=Tryz.isAgg160
 z51:=Tryz.sizeOf160
 v51:=Tryz.zeroValue160
 t53:=Tryz.underlying162
 a53:=Tryz.isAgg162
 z53:=Tryz.sizeOf162
 v53:=Tryz.zeroValue162
 t171:=Tryz.underlying242
 a171:=Tryz.isAgg242
 z171:=Tryz.sizeOf242
 v171:=Tryz.zeroValue242
 t173:=Tryz.underlying244
 a173:=Tryz.isAgg244
 z173:=Tryz.sizeOf244
 v173:=Tryz.zeroValue244
 t212:=Tryz.underlying254
 a212:=Tryz.isAgg254
 z212:=Tryz.sizeOf254
 v212:=Tryz.zeroValue254
 t213:=Tryz.underlying255
 a213:=Tryz.isAgg255
 z213:=Tryz.sizeOf255
 t232:=Tryz.underlying266
 a232:=Tryz.isAgg266
 z232:=Tryz.sizeOf266
 v232:=Tryz.zeroValue266
 t233:=Tryz.underlying267
 a233:=Tryz.isAgg267
 z233:=Tryz.sizeOf267
 v233:=Tryz.zeroValue267
 g17:=by kernel_rfl
 g18:=by kernel_rfl
 g19:=by kernel_rfl
 i0:=by kernel_rfl
 i2:=by kernel_rfl
 i3:=by kernel_rfl
 i4:=by kernel_rfl
 i5:=by kernel_rfl
 i9:=by kernel_rfl
 i20:=by kernel_rfl
 i37:=by kernel_rfl
 i46:=by kernel_rfl
 i51:=by kernel_rfl
 i53:=by kernel_rfl
 i171:=by kernel_rfl
 i173:=by kernel_rfl
 i212:=by kernel_rfl
 i232:=by kernel_rfl
 i233:=by kernel_rfl
 m17:=by kernel_rfl
 m18:=by kernel_rfl
 m19:=by kernel_rfl }
open Go.RowKit Go.Sort Go.Lib in
theorem Tryz.strconv_Itoa (n:Int) (h0 : -9223372036854775808<=n) (I:n<=9223372036854775807) (w:World) (BI:Lib.TabIs Tryz.prog w "internal/strconv.uint64pow10" .u64 Lib.pow10Tab) :
  Calls Tryz.prog 158 #[.int .i64 n] w fun e w'=>e=.returned (.string ⟨(Lib.itoa n).toArray⟩)/\∃ k os,w'=grow (w.drewN k) os:=Any.strconv_Itoa Tryz.QW n h0 I w BI
def Tryz.Xu:Go.Shelf.Ren:=⟨fun | 219=>206 | 217=>204 | 225=>234 | 224=>235 | 267=>236 | 266=>233 | 314=>251 | n=>n,fun | 9=>9 | 3=>3 | 4=>4 | 5=>5 | 46=>124 | 146=>249 | 51=>160 | n=>n,fun | 1=>0 | n=>n⟩
def Tryz.I6:Go.Shelf.Ren:=⟨fun | 143=>167 | 219=>206 | 217=>204 | 225=>234 | 224=>235 | 267=>236 | 266=>233 | 314=>251 | n=>n,fun | 9=>9 | 3=>3 | 4=>4 | 5=>5 | 46=>124 | 146=>249 | 51=>160 | n=>n,fun | 1=>0 | n=>n⟩
theorem Tryz.Ui:Go.Proofs.Lays.n143 Tryz.prog Tryz.I6:={
 mixed:=by kernel_rfl
 f143:=cJ Tryz.func167
 f217:=cJ Tryz.func204
 f219:=cJ Tryz.func206
 f224:=cJ Tryz.func235
 f225:=cJ Tryz.func234
 f266:=cJ Tryz.func233
 f267:=cJ Tryz.func236
 f314:=cJ Tryz.func251
 t3:=Tryz.underlying3
 a3:=Tryz.isAgg3
 z3:=Tryz.sizeOf3
 v3:=Tryz.zeroValue3
 t4:=Tryz.underlying4
 a4:=Tryz.isAgg4
 z4:=Tryz.sizeOf4
 v4:=Tryz.zeroValue4
 t5:=Tryz.underlying5
 a5:=Tryz.isAgg5
 z5:=Tryz.sizeOf5
 v5:=Tryz.zeroValue5
 t9:=Tryz.underlying9
 a9:=Tryz.isAgg9
 z9:=Tryz.sizeOf9
 v9:=Tryz.zeroValue9
 t46:=Tryz.underlying124
 a46:=Tryz.isAgg124
 z46:=Tryz.sizeOf124
 v46:=Tryz.zeroValue124
 t51:=Tryz.underlying160
 a51:=Tryz.isAgg160
 z51:=Tryz.sizeOf160
 v51:=Tryz.zeroValue160
 t146:=Tryz.underlying249
 a146:=Tryz.isAgg249
 z146:=Tryz.sizeOf249
 v146:=Tryz.zeroValue249
 g1:=by kernel_rfl }
open Go.RowKit Go.Lib in
theorem Tryz.strings_Index (s sub:ByteArray) (m:Int) (w:World) (hs:s.size < 4294967281) (hm:w.cell? ⟨0,0,none⟩=some (.int .i64 m)) :
  Calls Tryz.prog 167 #[.string s,.string sub] w fun e w'=>e=.returned (.int .i64 (Lib.index s.data.toList sub.data.toList))/\w'=w:=Any.strings_Index Tryz.Ui s sub m w hs hm
def Tryz.I7:Go.Shelf.Ren:=⟨fun | 189=>83 | 125=>107 | 257=>106 | 128=>142 | 129=>143 | 294=>133 | 295=>134 | 296=>135 | 297=>136 | 298=>137 | 299=>138 | 216=>139 | 300=>140 | 301=>141 | 328=>174 | 329=>175 | 330=>176 | 331=>177 | 332=>178 | 215=>179 | 343=>222 | n=>n,fun | 28=>46 | 3=>3 | 46=>124 | 0=>0 | 51=>160 | 53=>162 | 4=>4 | 183=>153 | 182=>152 | 131=>102 | 5=>5 | 9=>9 | 218=>198 | 222=>202 | 228=>234 | 229=>89 | n=>n,fun | n=>n⟩
theorem Tryz.Kd:Go.Proofs.Lays.n189 Tryz.prog Tryz.I7:={
 mixed:=by kernel_rfl
 f125:=cJ Tryz.func107
 f128:=cJ Tryz.func142
 f129:=cJ Tryz.func143
 f189:=cJ Tryz.func83
 f215:=cJ Tryz.func179
 f216:=cJ Tryz.func139
 f257:=cJ Tryz.func106
 f294:=cJ Tryz.func133
 f295:=cJ Tryz.func134
 f296:=cJ Tryz.func135
 f297:=cJ Tryz.func136
 f298:=cJ Tryz.func137
 f299:=cJ Tryz.func138
 f300:=cJ Tryz.func140
 f301:=cJ Tryz.func141
 f328:=cJ Tryz.func174
 f329:=cJ Tryz.func175
 f330:=cJ Tryz.func176
 f331:=cJ Tryz.func177
 f332:=cJ Tryz.func178
 f343:=cJ Tryz.func222
 t0:=Tryz.underlying0
 a0:=Tryz.isAgg0
 z0:=Tryz.sizeOf0
 v0:=Tryz.zeroValue0
 t3:=Tryz.underlying3
 a3:=Tryz.isAgg3
 z3:=Tryz.sizeOf3
 v3:=Tryz.zeroValue3
 t4:=Tryz.underlying4
 a4:=Tryz.isAgg4
 z4:=Tryz.sizeOf4
 v4:=Tryz.zeroValue4
 t5:=Tryz.underlying5
 a5:=Tryz.isAgg5
 z5:=Tryz.sizeOf5
 v5:=Tryz.zeroValue5
 t9:=Tryz.underlying9
 a9:=Tryz.isAgg9
 z9:=Tryz.sizeOf9
 v9:=Tryz.zeroValue9
 t28:=Tryz.underlying46
 a28:=Tryz.isAgg46
 z28:=Tryz.sizeOf46
 v28:=Tryz.zeroValue46
 t46:=Tryz.underlying124
 a46:=Tryz.isAgg124
 z46:=Tryz.sizeOf124
 v46:=Tryz.zeroValue124
 t51:=Tryz.underlying160
 a51:=Tryz.isAgg160
 z51:=Tryz.sizeOf160
 v51:=Tryz.zeroValue160
 t53:=Tryz.underlying162
 a53:=Tryz.isAgg162
 z53:=Tryz.sizeOf162
 v53:=Tryz.zeroValue162
 t131:=Tryz.underlying102
 a131:=Tryz.isAgg102
 z131:=Tryz.sizeOf102
 v131:=Tryz.zeroValue102
 t182:=Tryz.underlying152
 a182:=Tryz.isAgg152
 z182:=Tryz.sizeOf152
 v182:=Tryz.zeroValue152
 t183:=Tryz.underlying153
 a183:=Tryz.isAgg153
 z183:=Tryz.sizeOf153
 v183:=Tryz.zeroValue153
 t218:=Tryz.underlying198
 a218:=Tryz.isAgg198
 z218:=Tryz.sizeOf198
 v218:=Tryz.zeroValue198
 t222:=Tryz.underlying202
 a222:=Tryz.isAgg202
 z222:=Tryz.sizeOf202
 v222:=Tryz.zeroValue202
 t228:=Tryz.underlying234
 a228:=Tryz.isAgg234
 z228:=Tryz.sizeOf234
 v228:=Tryz.zeroValue234
 t229:=Tryz.underlying89
 a229:=Tryz.isAgg89
 z229:=Tryz.sizeOf89
 v229:=Tryz.zeroValue89 }
open Go.Sort Go.RowKit in
theorem Tryz.slices_Sort_int (blk off cap:Nat) (zs:List Int) (w:World) (hH:Holds (Value.int .i64) w blk off zs.toArray) (eA:blk < w.heap.size) (cB:zs.length < 4611686018427387904) :
  Calls Tryz.prog 83 #[.slice (some ⟨blk,off,none⟩) zs.length cap] w fun e w' =>
   e=.returned (.tuple #[])/\∃ n os,w'=grow (putRow (Value.int .i64) (Sort.ahead w n) blk off (zs.mergeSort fun x y=>decide (x<=y)).toArray) os:=Any.slices_Sort_int Tryz.Kd blk off cap zs w hH eA cB
def Tryz.Xt:Go.Shelf.Ren:=⟨fun | 157=>252 | 229=>261 | 199=>262 | 261=>267 | 311=>269 | 312=>270 | n=>n,fun | 9=>9 | 31=>22 | 3=>3 | 5=>5 | 4=>4 | 119=>256 | 0=>0 | 40=>258 | 152=>261 | 21=>21 | 154=>263 | 51=>160 | 141=>265 | 196=>271 | 193=>268 | 198=>274 | 49=>272 | 194=>269 | 201=>277 | 226=>280 | 46=>124 | 227=>281 | n=>n,fun | 0=>2 | 6=>3 | n=>n⟩
def Tryz.HB:Go.Shelf.Ren:=⟨fun | 157=>252 | 229=>261 | 199=>262 | 261=>267 | 311=>269 | 312=>270 | n=>n,fun | 9=>9 | 31=>22 | 3=>3 | 5=>5 | 4=>4 | 119=>256 | 0=>0 | 40=>258 | 152=>261 | 21=>21 | 154=>263 | 51=>160 | 141=>265 | 196=>271 | 193=>268 | 198=>274 | 49=>272 | 194=>269 | 201=>277 | 226=>280 | 46=>124 | 227=>281 | n=>n,fun | 0=>2 | 6=>3 | n=>n⟩
theorem Tryz.QV:Go.Proofs.LaysM.n157 Tryz.prog Tryz.HB:={
 mixed:=by kernel_rfl
 f157:=cJ Tryz.func252
 f199:=cJ Tryz.func262
 f229:=cJ Tryz.func261
 f261:=cJ Tryz.func267
 f311:=cJ Tryz.func269
 f312:=cJ Tryz.func270
 t0:=Tryz.underlying0
 a0:=Tryz.isAgg0
 z0:=Tryz.sizeOf0
 v0:=Tryz.zeroValue0
 t3:=Tryz.underlying3
 a3:=Tryz.isAgg3
 z3:=Tryz.sizeOf3
 v3:=Tryz.zeroValue3
 t4:=Tryz.underlying4
 a4:=Tryz.isAgg4
 z4:=Tryz.sizeOf4
 v4:=Tryz.zeroValue4
 t5:=Tryz.underlying5
 a5:=Tryz.isAgg5
 z5:=Tryz.sizeOf5
 v5:=Tryz.zeroValue5
 t9:=Tryz.underlying9
 a9:=Tryz.isAgg9
 z9:=Tryz.sizeOf9
 v9:=Tryz.zeroValue9
 t21:=Tryz.underlying21
 a21:=Tryz.isAgg21
 z21:=Tryz.sizeOf21
 v21:=Tryz.zeroValue21
 t31:=Tryz.underlying22
 a31:=Tryz.isAgg22
 z31:=Tryz.sizeOf22
 v31:=Tryz.zeroValue22
 t40:=Tryz.underlying258
 a40:=Tryz.isAgg258
 z40:=Tryz.sizeOf258
 v40:=Tryz.zeroValue258
 t46:=Tryz.underlying124
 a46:=Tryz.isAgg124
 z46:=Tryz.sizeOf124
 v46:=Tryz.zeroValue124
 t49:=Tryz.underlying272
 a49:=Tryz.isAgg272
 z49:=Tryz.sizeOf272
 v49:=Tryz.zeroValue272
 t51:=Tryz.underlying160
 a51:=Tryz.isAgg160
 z51:=Tryz.sizeOf160
 v51:=Tryz.zeroValue160
 t119:=Tryz.underlying256
 a119:=Tryz.isAgg256
 z119:=Tryz.sizeOf256
 t141:=Tryz.underlying265
 a141:=Tryz.isAgg265
 z141:=Tryz.sizeOf265
 v141:=Tryz.zeroValue265
 t152:=Tryz.underlying261
 a152:=Tryz.isAgg261
 z152:=Tryz.sizeOf261
 v152:=Tryz.zeroValue261
 t154:=Tryz.underlying263
 a154:=Tryz.isAgg263
 z154:=Tryz.sizeOf263
 v154:=Tryz.zeroValue263
 t193:=Tryz.underlying268
 a193:=Tryz.isAgg268
 z193:=Tryz.sizeOf268
 v193:=Tryz.zeroValue268
 t194:=Tryz.underlying269
 a194:=Tryz.isAgg269
 z194:=Tryz.sizeOf269
 v194:=Tryz.zeroValue269
 t196:=Tryz.underlying271
 a196:=Tryz.isAgg271
 z196:=Tryz.sizeOf271
 v196:=Tryz.zeroValue271
 t198:=Tryz.underlying274
 a198:=Tryz.isAgg274
 z198:=Tryz.sizeOf274
 v198:=Tryz.zeroValue274
 t201:=Tryz.underlying277
 a201:=Tryz.isAgg277
 z201:=Tryz.sizeOf277
 v201:=Tryz.zeroValue277
 t226:=Tryz.underlying280
 a226:=Tryz.isAgg280
 z226:=Tryz.sizeOf280
 v226:=Tryz.zeroValue280
 t227:=Tryz.underlying281
 a227:=Tryz.isAgg281
 z227:=Tryz.sizeOf281
 v227:=Tryz.zeroValue281
 g0:=by kernel_rfl
 g6:=by kernel_rfl
 i0:=by kernel_rfl
 i3:=by kernel_rfl
 i4:=by kernel_rfl
 i5:=by kernel_rfl
 i9:=by kernel_rfl
 i21:=by kernel_rfl
 i31:=by kernel_rfl
 i40:=by kernel_rfl
 i46:=by kernel_rfl
 i49:=by kernel_rfl
 i51:=by kernel_rfl
 i141:=by kernel_rfl
 i152:=by kernel_rfl
 i154:=by kernel_rfl
 i193:=by kernel_rfl
 i194:=by kernel_rfl
 i196:=by kernel_rfl
 i198:=by kernel_rfl
 i201:=by kernel_rfl
 i226:=by kernel_rfl
 i227:=by kernel_rfl
 m0:=by kernel_rfl
 m6:=by kernel_rfl }
open Go.RowKit Go.Lib in
theorem Tryz.strings_Fields_laid (s:ByteArray) (w:World) (hs:s.size < 4294967281) (VP:∀ (j:Nat) b,s.data.toList[j]?=some b->b.toNat < 128) (BI:Lib.TabIs Tryz.prog w "strings.asciiSpace" .u8 Lib.asciiSpaceTab) :
  Calls Tryz.prog 252 #[.string s] w fun e w' =>
   e=.returned (.slice (some ⟨w.heap.size,0,none⟩) (Lib.fields s.data.toList).length (Lib.fields s.data.toList).length)/\w'=w.alloc (.cells ((Lib.fields s.data.toList).map fun l=>Value.string ⟨l.toArray⟩).toArray 9):=Any.strings_Fields_laid Tryz.QV s w hs VP BI
def Tryz.FO:Go.Shelf.Ren:=⟨fun | 20=>104 | n=>n,fun | 22=>46 | 3=>3 | 4=>4 | 0=>0 | n=>n,fun | n=>n⟩
theorem Tryz.Fk:Go.Proofs.Lays2.n20 Tryz.prog Tryz.FO:={
 mixed:=by kernel_rfl
 f20:=cJ Tryz.func104
 t0:=Tryz.underlying0
 a0:=Tryz.isAgg0
 z0:=Tryz.sizeOf0
 v0:=Tryz.zeroValue0
 t3:=Tryz.underlying3
 a3:=Tryz.isAgg3
 z3:=Tryz.sizeOf3
 v3:=Tryz.zeroValue3
 t4:=Tryz.underlying4
 a4:=Tryz.isAgg4
 z4:=Tryz.sizeOf4
 v4:=Tryz.zeroValue4
 t22:=Tryz.underlying46
 a22:=Tryz.isAgg46
 z22:=Tryz.sizeOf46
 v22:=Tryz.zeroValue46
 i3:=by kernel_rfl }
open Go.RowKit Go.Lib Go.Sort in
theorem Tryz.slices_Compact_int (blk off cap:Nat) (zs:List Int) (w:World) (hH:Holds (Value.int .i64) w blk off zs.toArray) (cB:zs.length<=9223372036854775807) (ur:zs.length<=cap) :
  Calls Tryz.prog 104 #[.slice (some ⟨blk,off,none⟩) zs.length cap] w fun e w'=>e=.returned (.slice (some ⟨blk,off,none⟩) (Lib.compact zs).length cap)/\∃ q,w'=putRow (Value.int .i64) (Sort.ahead w q) blk off (Lib.compact zs++List.replicate (zs.length - (Lib.compact zs).length) 0).toArray:=Any.slices_Compact_int Tryz.Fk blk off cap zs w hH cB ur
open Go.RowKit Go.Lib Go.Sort in
theorem Tryz.slices_Compact_int_empty (a:Option Addr) (cap:Nat) (w:World) :
  Calls Tryz.prog 104 #[.slice a 0 cap] w fun e w'=>e=.returned (.slice a 0 cap)/\w'=w:=Any.slices_Compact_int_empty Tryz.Fk a cap w
open Go.RowKit Go.Sort in
theorem Tryz.slices_Sort_int_none (p:Option Addr) (cap:Nat) (w:World) :
  Calls Tryz.prog 83 #[.slice p 0 cap] w fun e w'=>e=.returned (.tuple #[])/\w'=w:=Any.slices_Sort_int_none Tryz.Kd p cap w
end Go.Proofs
set_option maxHeartbeats 1000000
namespace Go.Xg
open Go.RowKit Go.Xw Go.Proofs Tryz
attribute [local irreducible] GW GL GO YG GC GA ba bc
instance:Em prog 179 5:=Em.mk' (aj)
instance:Dt prog 214:=Dt.mk' (e:=216) (aj) (aj)
theorem IU (g:Value):GF prog 230 [.loc 0 0] [.box 216 [.loc 0 0,.v g]] (.tup []) [.box 216 [.loc 0 0,.v g]]:=by
 refine ai func230 ntmps230 ?_;exact gL
theorem sT (s:ah) (n:Nat) (a:Option Addr) (c:Nat) (rows:List (List GV)) (hn:rows.length=n) (hb:n+s.length<=140737488355328) :
  GC prog 198 [.loc 0 0,.v (sv s)] [.box 216 [.loc 0 0,.v (.slice a n c)],.vech 5 1 rows (.slice a n c)] (fun g aS=>(∃ x,g=.tup [.v (ii s.length),x])/\∃ a c,aS=[.box 216 [.loc 0 0,.v (.slice a (n+s.length) c)],.vech 5 1 (rows++cx s) (.slice a (n+s.length) c)]):=by
 subst hn;have h:=IU (.slice a rows.length c)
 cases s with
 | nil =>
  refine ai func198 ntmps198 ?_;refine D [0] h ?_;refine GL.XA 1 rfl rfl rfl (by simpa using hb) ?_;refine cm ?_;refine G ?_;refine Aa ?_;exact ⟨⟨_,rfl⟩,a,c,by simp [cx]⟩
 | cons x r =>
  generalize hs:x::r=s at *
  have cj:s.isEmpty=false:=by rw [<-hs];rfl
  clear hs;refine ai func198 ntmps198 ?_;refine D [0] h ?_;refine GL.XB 1 rfl rfl rfl bf cM ag ?_;intro a2 c2;refine cm ?_;refine G ?_;refine Aa ?_;exact ⟨⟨_,rfl⟩,a2,c2,rfl⟩
theorem P5 (str:ah) (a:Option Addr) (c:Nat) (h0:str≠[]) (hb:str.length<=140737488355328) :
  GF prog 199 [.loc 0 0] [.box 216 [.loc 0 0,.v (.slice a str.length c)],.vech 5 1 (cx str) (.slice a str.length c)] (.v (sv str)) [.box 216 [.loc 0 0,.v (.slice a str.length c)],.lost]:=by
 have hlen:(cx str).length=str.length:=by simp [cx]
 have hp:Nat.blt 0 str.length=true:=by simpa using List.length_pos_iff.2 h0
 have cj:str.isEmpty=false:=by cases str with | nil=>exact absurd rfl h0 | cons _ _=>rfl
 refine ai func199 ntmps199 ?_;refine aJ (aD 0 10 (.a 10 (.q 11 .nil))) ?_;refine au ?_;refine Mv ?_;refine au ?_;exact ax
end Go.Xg
namespace Go.Xg
open GV (U)
open Go.RowKit Go.Xw Go.Proofs Tryz
open Go.Xp (bK)
theorem nm.qC {P:Program} {f:FuncId} {vs:List Value} {w:World} {R:Value->World->Prop} (h:Calls P f vs.toArray w fun e w'=>∃ v,e=.returned v/\R v w'):nm P f vs w R:=h
theorem GW.builder {Q:eu} {fr:List GV} {r1 r2:Nat} {rest:Code} {t8 t56 t57 t5:Tmp} {T1 T2 T3 T4 T5:TypeId} {p1 p2 p3:String} {a1 a2 a3:Array Edge} (n:Nat)
  (h8:kJ fr t8=true) (YO:kJ fr t56=true) (cj:Nat.beq t8 t56=false) (aac:Nat.beq t5 t8=false) (hn:dj fr t5=.v (ii (n:Nat))) (hb:n<=281474976710656)
  (h:∀ a c,GW prog 0 rest Q (bH (bH (bH fr t8 (.loc 0 0)) t56 (.v (ii (n:Nat)))) t57 (.v (.tuple #[]))) [.box 216 [.loc 0 0,.v (.slice a 0 c)],.vech 5 1 [] (.slice a 0 c)]) :
  GW prog 0 (.seq (.region r1 [(⟨some t8,.alloc 216,T1,p1,a1,none⟩:Oper)].toArray false) (.seq (.region r2 [(⟨some t56,.move (.tmp t5),T2,p2,a2,none⟩:Oper),⟨some t57,.call ⟨.value (.func 197),[Operand.tmp t8,.tmp t56].toArray,#[T3,T4]⟩,T5,p3,a3,none⟩].toArray false) rest)) Q fr []:=fun B K β w l hm hI hF=>by
 have QB:t8≠t56:=by intro e;subst e;simp at cj
 have SI:t5≠t8:=by intro e;subst e;simp at aac
 have i8:=oA hF h8;have i56:=oA hF YO;refine W.seq (W.region (WL.alloc (t:=216) fun b w1 tg=>WL.nil ?_));refine W.seq (W.region (WL.v R.mv (WL.call (f:=197) (Dv:=[.pointer (some ⟨b,0,none⟩),.int .i64 n]) ?_ (R:=fun x w2=>x=.tuple #[]/\(Lib.BuilderAt 216 5 b b (.pointer (some ⟨b,0,none⟩)) [] w2/\Below b w1 w2)) ?_ fun x w2 hx=>WL.nil ?_)))
 ·have hF1:FR K (fC β 0 (.fix b)) (bH fr t8 (.loc 0 0)) (put l (some t8) (.pointer (some ⟨b,0,none⟩))) :=
   (hF.mono (c6.refl K) (ic (i:=0) (x:=.fix b) (by rw [hI.out 0 (aH _)];trivial))).fS t8 (.loc 0 0 b bq)
  have j56:kJ (fS l t8 (.pointer (some ⟨b,0,none⟩))) t56=true:=oA hF1 (t:=t56) (by rw [Kb];exact YO)
  have e5:nth (fS l t8 (.pointer (some ⟨b,0,none⟩))) t5=.int .i64 n:=by
   rw [q9 SI];exact Rel.gy (by rw [<-hn];exact hF.nth t5)
  show [nth (fS (fS l t8 (.pointer (some ⟨b,0,none⟩))) t56 (nth (fS l t8 (.pointer (some ⟨b,0,none⟩))) t5)) t8,nth (fS (fS l t8 (.pointer (some ⟨b,0,none⟩))) t56 (nth (fS l t8 (.pointer (some ⟨b,0,none⟩))) t5)) t56]=_;rw [q9 QB,wD i8,wD j56,e5]
 ·refine nm.qC (Calls.mono (Tryz.Builder_Grow_fresh b b n w1 (aH _) tg.blk (by have:=tg.size;omega) hb) ?_);rintro e w' ⟨I,F⟩;exact ⟨_,I,rfl,F⟩
 ·obtain ⟨rfl,⟨_,v,mc,fg,vm⟩,Hb⟩:=hx;have fg:iH w2 b 5 1 v 0 []:=fg;obtain ⟨a,c,rfl⟩:=fg.shape;have pb:=tg.fresh;have gU:Ext jc w w2:=⟨Hb.os.trans tg.ext.os,Hb.tape.trans tg.ext.tape,Hb.output.trans tg.ext.output,km tg.ext.size Hb.size,fun k hk hs=>(Hb.block k ag).trans (tg.ext.block k hk hs)⟩;have o8:=hI.same gU
  have bX:∀ i,β i=.no:=fun i=>hI.out i (aX _)
  have VM:∀ o,K b o=none:=fun o=>by
   cases hk:K b o with
   | none=>rfl
   | some g=>have:=hI.fz.lt hk;omega
  have Zg:=hI.ext.size;have aaV:=hI.tab.pow.lt;have nN:=hI.tab.spc.lt;have V2:dJ β (fC β ([]:List Ob).length (.fix b)):=ic (by rw [bX];trivial)
  have VL:=o8.Lh (x:=.fix b) (y:=.box 216 [.loc 0 0,.v (.slice a 0 c)]) (fun b' bo=>by
   cases bo
   exact ⟨fun i hi=>(by rw [bX] at hi;cases hi),by omega,by omega,by omega⟩) (by
   refine ⟨b,[.pointer (some ⟨b,0,none⟩),.slice a 0 c],bq,mc,.cons (.loc 0 0 b bq) (.cons (.v _) .nil),VM⟩) V2
  have CJ:iH w2 0 5 1 (.slice a 0 c) 0 []:=fg.base (aX _)
  have Sv:∀ g,(Value.slice a 0 c).ownBlock=some g->b < g:=fun g hg=>by
   have I:=(fg.lt hg).1
   have F:g≠b:=fun e=>vm (by rw [hg,e])
   omega
  have Az:fC β ([]:List Ob).length (.fix b) 1=.no:=by rw [bM aM];exact bX 1
  have BH:dJ (fC β ([]:List Ob).length (.fix b)) (fC (fC β ([]:List Ob).length (.fix b)) 1 (.gr (.slice a 0 c) 0)):=ic (by rw [Az];trivial)
  have hI4:=VL.Lh (x:=.gr (.slice a 0 c) 0) (y:=.vech 5 1 [] (.slice a 0 c)) (fun g hg=>by
   have:=Sv g hg;refine ⟨fun i hi=>?_,by omega,by omega,by omega⟩
   rcases mO hi with I | I
   ·cases I;omega
   ·rw [bX] at I;cases I) (by
   refine ⟨[],bq,CJ,bg.nil,(fun r hr=>by cases hr),fun g hg o=>?_⟩
   cases hk:K g o with
   | none=>rfl
   | some y=>have:=hI.fz.lt hk;have:=Sv g hg;omega) BH
  refine h a c B K _ w2 _ hm hI4 ?_;have Sq:=(hF.mono (c6.refl K) V2).mono (c6.refl K) BH;refine ((Sq.fS t8 (.loc 0 0 b ?_)).fS t56 ?_).fS t57 (.v _)
  ·rw [bM aM];exact bq
  ·have e5:nth (fS l t8 (.pointer (some ⟨b,0,none⟩))) t5=.int .i64 n:=by
    rw [q9 SI];exact Rel.gy (by rw [<-hn];exact hF.nth t5)
   rw [show ev (put l (some t8) (.pointer (some ⟨b,0,none⟩))) (.tmp t5)=.int .i64 n from e5];exact .v _
attribute [local irreducible] GW GL GO YG GC GA ba bc
theorem vf (a b:ah):cx (a++b)=cx a++cx b:=by simp [cx]
def nR (l:List ah):Nat:=(l.map List.length).sum
theorem Ff:∀ (r:List ah) (x:ah),(bK (x::r)).length=nR (x::r)+2 * r.length
 | [],x=>by simp [bK,nR]
 | y::r,x=>by
  have:=Ff r y;simp only [bK,nR,aZ,List.map_cons,sum_cons,List.flatMap_cons,length_cons] at this |-;omega
def gj (l:List ah):ah:=l.flatMap fun y=>44::32::y
theorem NP (a b:List ah):gj (a++b)=gj a++gj b:=by unfold gj;rw [List.flatMap_append]
theorem TZ (l:List ah) (k:Nat):(gj (l.take k)).length<=(gj l).length:=by
 have:gj l=gj (l.take k)++gj (l.drop k):=by rw [<-NP,List.take_append_drop]
 rw [this,aZ];omega
theorem VD (y:ah):gj [y]=[44,32]++y:=by simp [gj]
theorem QL (x:ah) (r:List ah):bK (x::r)=x++gj r:=rfl
theorem MI (l:List ah) (hb:(bK l).length<=1099511627776) (hl:l.length<=1099511627776):GF prog 159 [strs l,.v (sv [44,32])] [] (.v (sv (bK l))) []:=by
 match l,hb,hl with
 | [],hb,hl =>
  refine ai func159 ntmps159 ?_;exact ak
 | [x],hb,hl =>
  have hr:([x].map fun s=>[GV.v (sv s)])[0]?=some [.v (sv x)]:=rfl
  have e:bK [x]=x:=by simp [bK]
  rw [e];refine ai func159 ntmps159 ?_;exact ak
 | x::y::r,hb,hl =>
  have sG:((x::y::r).map fun s=>[GV.v (sv s)])[0]?=some [.v (sv x)]:=rfl;have hlen:=Ff (y::r) x
  have AH:x.length<=1099511627776:=by simp only [bK,aZ] at hb;omega
  generalize hL:(x::y::r)=l at *
  have kE:2<=l.length:=by rw [<-hL];simp
  have eL:(l.map fun s=>[GV.v (sv s)]).length=l.length:=by simp
  have Az:Nat.blt 1 (l.map fun s=>[GV.v (sv s)]).length=true:=by rw [eL];simpa [Nat.blt] using kE
  have EZ:(((l.map fun s=>[GV.v (sv s)]).length:Int)==0)=false:=by rw [eL];simp only [beq_eq_false_iff_ne,ne_eq];omega
  have Hg:(((l.map fun s=>[GV.v (sv s)]).length:Int)==1)=false:=by rw [eL];simp only [beq_eq_false_iff_ne,ne_eq];omega
  have hq:decide ((9223372036854775807:Int) / (((l.map fun s=>[GV.v (sv s)]).length:Int) - 1)<=2)=false:=by
   rw [eL]
   have h3:(3:Int)<=9223372036854775807 / ((l.length:Int) - 1):=by
    rw [Int.le_ediv_iff_mul_le ag];omega
   simp;omega
  refine ai func159 ntmps159 ?_;apply GL.q
  ·exact YG.mul (a:=2) (b:=((l.map fun s=>[GV.v (sv s)]).length:Int) - 1) rfl rfl ag
  refine eh ?_;refine G ?_;refine GW.range (l.map fun s=>[GV.v (sv s)]).length (fun k fr Γ=>fr=[strs l,.v (sv [44,32]),U,U,U,.v (ii (0+2 * (((l.map fun s=>[GV.v (sv s)]).length:Int) - 1)+((nR (l.take k):Nat):Int))),U,U,U,U,U,U,U,U,U,U,U,U,U,U,U,U,U,U,U,U,U,U,U,U,U,U,U,U,U,U,U,U,U,strs l,.v (ii ((l.map fun s=>[GV.v (sv s)]).length:Int)),.v (ii (k:Nat)),U,U,U,U,U,U,U,U,U,U,U,U,U,U,U,U,U,U,U,U,U,U,U,U,U,U,U,U,U,U,U,U,U]/\Γ=[]) ?_ ag ?_ ?_ ?_
  ·refine ⟨_,_,Wk.aK (cl:=[strs l,.v (sv [44,32]),U,U,U,.v (ii (0+2 * (((l.map fun s=>[GV.v (sv s)]).length:Int) - 1))),U,U,U,U,U,U,U,U,U,U,U,U,U,U,U,U,U,U,U,U,U,U,U,U,U,U,U,U,U,U,U,U,U,strs l,.v (ii ((l.map fun s=>[GV.v (sv s)]).length:Int)),.v (ii (0:Nat)),U,U,U,U,U,U,U,U,U,U,U,U,U,U,U,U,U,U,U,U,U,U,U,U,U,U,U,U,U,U,U,U,U]) av,?_,rfl⟩;rw [List.take_zero,show ((nR []:Nat):Int)=0 from rfl,Int.add_zero]
  ·rintro k _ _ ⟨rfl,rfl⟩;exact dI
  ·rintro k _ _ ar ⟨rfl,rfl⟩;rw [eL] at ar
   have de:l[k]?=some l[k]:=by simp [ar]
   have ux:(l.map fun s=>[GV.v (sv s)])[k]?=some [.v (sv l[k])]:=by rw [aV,de];rfl
   have hs:nR (l.take (k+1))=nR (l.take k)+l[k].length:=by unfold nR;rw [cq,de,o0,List.sum_append];simp only [Option.toList,List.map_cons,map_nil,sum_cons,List.sum_nil,Nat.add_zero]
   have hle:nR (l.take (k+1))<=nR l:=by
    have:nR l=nR (l.take (k+1))+nR (l.drop (k+1)):=by
     unfold nR;rw [<-List.sum_append,<-o0,List.take_append_drop]
    omega
   generalize l[k]=z at *;rw [show (0+2 * (((l.map fun s=>[GV.v (sv s)]).length:Int) - 1)+((nR (l.take (k+1)):Nat):Int))=0+2 * (((l.map fun s=>[GV.v (sv s)]).length:Int) - 1)+((nR (l.take k):Nat):Int)+(z.length:Int) by rw [hs];omega]
   have hov:decide (9223372036854775807 - (0+2 * (((l.map fun s=>[GV.v (sv s)]).length:Int) - 1)+((nR (l.take k):Nat):Int)) < (z.length:Int))=false:=by
    simp only [decide_eq_false_iff_not];omega
   refine G ?_;exact ⟨rfl,rfl,_,_,Wk.aK av,rfl,rfl⟩
  ·rintro _ _ ⟨rfl,rfl⟩;rw [eL,cy]
   have hN:(0+2 * ((l.length:Int) - 1)+((nR l:Nat):Int))=(((bK l).length:Nat):Int):=by
    have:(y::r).length+1=l.length:=by rw [<-hL];simp
    omega
   rw [hN];refine be ?_
   refine GW.builder (bK l).length rfl rfl rfl rfl rfl ag fun a c=>?_
   refine G ?_;refine dm [0,1] (sT x 0 a c [] rfl ag) ?_;rintro _ _ ⟨⟨u1,rfl⟩,a1,c1,rfl⟩;refine dG ?_;refine G ?_
   have key:∀ k,(x++gj ((y::r).take k)).length<=1099511627776:=fun k=>by
    have I:=TZ (y::r) k;rw [<-hL,QL,aZ] at hb;rw [aZ];omega
   refine GW.range ((y::r).map fun s=>[GV.v (sv s)]).length (fun k fr Γ=>∃ acc a c,fr=[U,.v (sv [44,32]),U,U,U,U,U,U,.loc 0 0,U,U,U,U,U,U,U,U,U,U,U,U,U,U,U,U,U,U,U,U,U,U,U,U,U,U,U,U,U,U,U,U,U,U,U,U,U,U,U,U,U,U,U,U,U,U,U,U,U,U,U,U,U,U,strs (y::r),.v (ii (((y::r).map fun s=>[GV.v (sv s)]).length:Int)),.v (ii (k:Nat)),U,U,U,U,U,U,U,U,U]/\acc=x++gj ((y::r).take k)/\Γ=[.box 216 [.loc 0 0,.v (.slice a acc.length c)],.vech 5 1 (cx acc) (.slice a acc.length c)]) ?_ ?_ ?_ ?_ ?_
   ·rw [show 0+x.length=x.length from fk _];subst hL;exact ⟨_,_,Wk.aK av,x,a1,c1,rfl,by simp [gj],rfl⟩
   ·have:((y::r).map fun s=>[GV.v (sv s)]).length+1=l.length:=by rw [<-hL];simp
    omega
   ·rintro k _ _ ⟨acc,a,c,rfl,_,rfl⟩;exact dI
   ·rintro k _ _ ar ⟨acc,a,c,rfl,lY,rfl⟩
    have ar:k < (y::r).length:=by simpa using ar
    have de:(y::r)[k]?=some (y::r)[k]:=by simp [ar]
    have ux:((y::r).map fun s=>[GV.v (sv s)])[k]?=some [.v (sv (y::r)[k])]:=by rw [aV,de];rfl
    have bB:x++gj ((y::r).take (k+1))=(acc++[44,32])++(y::r)[k]:=by
     rw [cq,de,NP,<-iw,<-lY,iw]
     congr 1
     exact VD _
    have vk:=key k;have sB:=key (k+1);rw [bB] at sB;rw [<-lY] at vk;simp only [aZ,length_cons,length_nil] at sB;generalize (y::r)[k]=z at *
    have XV:(cx acc).length=acc.length:=by simp [cx]
    refine G ?_;refine dm [0,1] (sT [44,32] acc.length a c (cx acc) XV (by simp only [length_cons,length_nil];omega)) ?_;rintro _ _ ⟨⟨u1,rfl⟩,a2,c2,rfl⟩;refine dG ?_;rw [show cx acc++[[GV.v (.int .u8 ((44:UInt8).toNat:Int))],[GV.v (.int .u8 ((32:UInt8).toNat:Int))]]=cx (acc++[44,32]) by simp [cx],show acc.length+([44,32]:ah).length=(acc++[44,32]).length by simp];refine G ?_;refine dm [0,1] (sT z (acc++[44,32]).length a2 c2 (cx (acc++[44,32])) (by simp [cx]) (by simp only [aZ,length_cons,length_nil];omega)) ?_;rintro _ _ ⟨⟨u2,rfl⟩,a3,c3,rfl⟩;refine dG ?_
    have ez:List.length (acc++[44,32])+List.length z=List.length ((acc++[44,32])++z):=by simp only [aZ]
    rw [<-vf,ez];refine G ?_;exact ⟨rfl,rfl,_,_,Wk.aK av,(acc++[44,32])++z,a3,c3,rfl,bB.symm,rfl⟩
   ·rintro _ _ ⟨acc,a,c,rfl,lY,rfl⟩
    have hj:bK l=acc:=by
     rw [lY,<-hL,show ((y::r).map fun s=>[GV.v (sv s)]).length=(y::r).length by simp,cy];rfl
    rw [hj] at hb hlen |-
    have cj:acc≠[]:=by
     intro h0;rw [h0] at hlen;simp at hlen
    have aao:=P5 acc a c cj ag;refine G ?_;refine D [0,1] aao ?_;exact ak
end Go.Xg
set_option maxHeartbeats 4000000
namespace Go.Xg
open Go.RowKit Go.Xw Go.Proofs Tryz Go.Im
section
variable {P:Program} {m:Nat} {fr:List GV} {Γ:List Ob}
theorem Wk.keep {n j E k:Nat} {rows:List (List GV)} {x:Value} (hm:m<=n) (hnj:n<=j) (hl:AP n (Γ.take n)=true) (hlen:(Γ.take n).length=n) (bJ:Γ[j]?=some (.vech E k rows x)) :
  Wk m fr Γ (Vj n fr) (Γ.take n++[.vech E k rows x]):=fun B K β w l hB hI hF=>by
 have h:=hI.cut (n:=n) ag hl;obtain ⟨xs,o1,o2,o3,o4,o5⟩:=hI.ob j _ bJ
 have Sz:∀ b,(Bk.gr x rows.length).blk=some b->(β j).blk=some b:=fun b hb=>by rw [o1];exact hb
 have Qx:fU (below n) β n=.no:=tR (zx (aH n));have hold:dJ (fU (below n) β) (fC (fU (below n) β) n (.gr x rows.length)):=ic (by rw [Qx];trivial)
 have bX:∀ b,(β j).blk=some b->∀ i,(fU (below n) β i).blk≠some b:=fun b hb i hi=>by
  by_cases kC:i < n
  ·rw [iQ (zy kC)] at hi;have:=hI.dis i j b hi hb;omega
  ·rw [tR (zx ag)] at hi;cases hi
 refine ⟨K,fC (fU (below n) β) n (.gr x rows.length),?_,(hF.res).mono (c6.refl K) hold⟩;refine ⟨h.ext,h.kle,h.ble.trans hold,h.loc,h.fz,fun i z hi=>?_,fun i hi=>?_,fun i i' b hi hj=>?_,fun i b hi=>?_,h.kn,⟨h.tab.le,h.tab.pow,h.tab.spc,fun i b hi=>?_⟩⟩
 ·by_cases qR:i < n
  ·rw [kl ag] at hi;exact (h.ob i z hi).ext (S:=jc) (Ext.refl w) (fun _ _ h=>h) (c6.refl K) hold (bM ag) (fun _ _ _ h=>h)
  ·have:i=n:=by have:=(bh hi).1;rw [aZ,hlen,List.length_singleton] at this;omega
   subst this;rw [nk ag,hlen,vA] at hi;cases hi;refine ⟨xs,bq,o2,⟨o3.1,fun a v g I F=>(o3.2 a v g I F).pc ?_⟩,o4,o5⟩;obtain ⟨r,lg,eE⟩:=List.mem_flatten.1 (bm F);exact (o4 r lg).2 g eE
 ·rw [aZ,hlen,List.length_singleton] at hi;rw [bM ag];exact tR (zx ag)
 ·by_cases I:i=n <;> by_cases F:i'=n
  ·omega
  ·subst I;rw [bq] at hi;rw [bM F] at hj;exact absurd hj (bX b (Sz b hi) i')
  ·subst F;rw [bq] at hj;rw [bM I] at hi;exact absurd hi (bX b (Sz b hj) i)
  ·rw [bM I] at hi;rw [bM F] at hj;exact h.dis i i' b hi hj
 ·rcases mO hi with I | I
  ·exact hI.own j b (Sz b I)
  ·exact h.own i b I
 ·rcases mO hi with I | I
  ·exact hI.tab.free j b (Sz b I)
  ·exact h.tab.free i b I
end
theorem Inv.renew {B:Bs} {K:Fz} {β:Bt} {Γ:List Ob} {w w':World} {i E k:Nat} {rows rows':List (List GV)} {x:Value} {xs:List Value} (h:Inv B K β Γ w) (hi:Γ[i]?=some (.vech E k rows x)) (hl:rows'.length=rows.length)
  (ho:iH w' 0 E k x rows'.length xs) (hr:bg K β xs rows'.flatten) (eT:gE k rows') (hx:Ext (fun b=>x.ownBlock=some b) w w'):Inv B K β (oset Γ i (.vech E k rows' x)) w':=by
 obtain ⟨xs0,I,F,h3,h4,h5⟩:=h.ob i _ hi
 have dQ:∀ b,x.ownBlock=some b->(β i).blk=some b:=fun b hb=>by rw [I];exact hb
 rw [bD];refine ⟨h.ext.step hx (fun j hj=>(h.own i j (dQ j hj)).symm),h.kle,h.ble,h.loc,h.fz.ext hx (fun b o g hg he=>by rw [h5 b he o] at hg;cases hg),fun j y hj=>?_,fun j hj=>h.out j (by simpa using hj),h.dis,h.own,h.kn,h.tab.step hx (fun j hj=>⟨i,dQ j hj⟩) (c6.refl K) (fun i b2 h=>.inl ⟨i,h⟩)⟩;rw [iz] at hj;split at hj
 ·rename_i fx;split at hj
  ·cases hj;subst fx
   exact ⟨xs,by rw [hl];exact I,ho,hr,eT,h5⟩
  ·cases hj
 ·rename_i fx;exact (h.ob j y hj).ext hx (fun b hb he=>fx (h.dis i j b (dQ b he) hb)) (c6.refl K) (dJ.refl β) rfl (fun _ _ _ h=>h)
theorem Fc (l:List Int):(bC l).flatten=l.map fun i=>GV.v (ii i):=by
 unfold bC
 induction l with
 | nil=>rfl
 | cons a l ih=>rw [List.map_cons,flatten_cons,ih];rfl
theorem ew (l:List Int):(bC l).length=l.length:=by simp [bC]
theorem Kc (l:List Int):gE 1 (bC l):=fun r hr=>by
 obtain ⟨i,_,rfl⟩:=tI.1 hr;exact ⟨rfl,fun g hg=>by rw [Ek hg];rfl⟩
theorem Fy {K:Fz} {β:Bt} (l:List Int):bg K β (l.map (Value.int .i64)) ((bC l).flatten):=by
 rw [Fc];refine ⟨by simp,fun i v g I F=>?_⟩;rw [aV] at I F
 cases hl:l[i]? with
 | none=>rw [hl] at I;cases I
 | some z=>rw [hl] at I F;cases I;cases F;exact .v _
theorem ya {K:Fz} {β:Bt} {xs:List Value} {l:List Int} (h:bg K β xs ((bC l).flatten)):xs=l.map (Value.int .i64):=by
 rw [Fc] at h;apply List.ext_getElem?;intro i;rw [aV]
 cases hl:l[i]? with
 | none =>
  have:=h.1;rw [bS] at this;have F:=py hl;rw [List.getElem?_eq_none ag];rfl
 | some z =>
  obtain ⟨v,hv,hr⟩:=h.at (i:=i) (g:=.v (ii z)) (by rw [aV,hl];rfl);rw [hv,Rel.gy hr];rfl
theorem JO {w:World} {g q:Nat} {d:Array Int} {os:Array Obj}:Ext (fun b=>b=g) w (Go.Sort.grow (Go.Sort.putRow (Value.int .i64) (Go.Sort.ahead w q) g 0 d) os):=by
 refine ⟨rfl,rfl,rfl,by simp [Go.Sort.grow,Go.Sort.putRow,Go.Sort.mapBlock,Go.Sort.ahead],fun k hk hn=>?_⟩;simp only [Go.Sort.grow,Go.Sort.putRow,Go.Sort.mapBlock,Go.Sort.ahead];rw [Array.getElem?_append_left (by simpa using hk),Array.getElem?_modify,ab ag]
theorem Ta {K:Fz} {β:Bt} {vs:List Value} {x:Value} (h:bg K β vs [.v x]):vs=[x]:=by
 match vs,h.1 with
 | [v],_=>rw [Rel.gy h.oJ.1]
theorem MM (zs:List Int) (E:TypeId) (a:Option Addr) (c:Nat) (hz:zs.length<=1099511627776) :
  GF prog 83 [.v (.slice a zs.length c)] [.vech E 1 (bC zs) (.slice a zs.length c)] (.tup []) [.vech E 1 (bC (gx zs)) (.slice a zs.length c)]:=fun B K β w vs hm hI hF=>by
 obtain rfl:=Ta hF;obtain ⟨xs,I,F,h3,h4,h5⟩:=hI.ob 0 _ rfl;have oz:=ya h3;subst oz;rw [ew] at F
 by_cases hn:(Value.slice a zs.length c)=.slice none 0 0
 ·injection hn with e1 e2 e3
  have Hv:zs=[]:=gQ e2;subst Hv;subst e1;refine nm.qC (Calls.mono (slices_Sort_int_none none c w) ?_);rintro e w' ⟨he,rfl⟩;exact ⟨_,he,K,β,.tup [],_,hI,.tup [] [] rfl (fun i v g h=>by simp at h),rfl,by rw [show gx []=[] by simp [gx]]⟩
 ·obtain ⟨g,cap,hv,ot,YX,pI,x5,hzl,hH⟩:=Go.Lib.holds_of_ownsRow F hn
  injection hv with e1 e2 e3
  subst e1;subst e3;refine nm.qC (Calls.mono (slices_Sort_int g 0 c zs w hH YX ag) ?_);rintro e w' ⟨he,n,os,rfl⟩;have fg:=Go.Lib.ownsRow_putRow (q:=n) (k:=zs.length) (ys:=gx zs) F (nh zs) (aH _);rw [jS (by rw [nh];exact aH _)] at fg;have LF:=Go.Lib.ownsRow_grow fg 0 os;refine ⟨_,he,K,β,.tup [],_,hI.renew (i:=0) rfl (rows':=bC (gx zs)) (xs:=(gx zs).map (Value.int .i64)) (by rw [ew,ew,nh]) ?_ (Fy _) (Kc _) ?_,.tup [] [] rfl (fun i v g h=>by simp at h),rfl,rfl⟩
  ·rw [ew,nh];exact LF
  ·exact (JO (w:=w) (g:=g) (q:=n) (d:=(gx zs).toArray) (os:=os)).mono fun b _ hb=>by rw [hb];rfl
theorem Rz {K:Fz} {β:Bt} {g n c k:Nat} {rows:List (List GV)} (h:Rel K β (.slice (some ⟨g,0,none⟩) n c) (.sl k rows)) (cj:rows≠[]) :
  ∀ (i:Nat) r,rows[i]?=some r->r.length=k/\∀ (j:Nat) gg,r[j]?=some gg->K g (0+i * k+j)=some gg:=by
 generalize hv:Value.slice (some ⟨g,0,none⟩) n c=v at h
 cases h with
 | sl0 a c k=>exact absurd rfl cj
 | sl b o c k rows h hc =>
  injection hv with e1 e2 e3
  injection e1 with e1
  injection e1 with e1 e4
  subst e1;subst e4;exact h
theorem MB (zs:List Int) (E:TypeId) (a:Option Addr) (c:Nat) (hz:zs.length<=1099511627776) (vj:(Go.Lib.compact zs).length<=zs.length) :
  GC prog 104 [.v (.slice a zs.length c)] [.vech E 1 (bC zs) (.slice a zs.length c)] fun g Δ=>g=ints (Go.Lib.compact zs)/\∃ fz S,Δ=[.vec E 1 fz S]:=fun B K β w vs hm hI hF=>by
 obtain rfl:=Ta hF;obtain ⟨xs,I,F,h3,h4,h5⟩:=hI.ob 0 _ rfl;have oz:=ya h3;subst oz;rw [ew] at F
 by_cases Hv:zs=[]
 ·subst Hv;refine nm.qC (Calls.mono (slices_Compact_int_empty a c w) ?_);rintro e w' ⟨he,rfl⟩;exact ⟨_,he,K,β,ints [],_,hI.zm (i:=0) rfl,.sl0 a c 1,rfl,_,_,rfl⟩
 ·have hn:(Value.slice a zs.length c)≠.slice none 0 0:=fun hn=>by
   injection hn with e1 e2 e3
   exact Hv (gQ e2)
  obtain ⟨g,cap,hv,ot,YX,pI,x5,hzl,hH⟩:=Go.Lib.holds_of_ownsRow F hn
  injection hv with e1 e2 e3
  subst e1;subst e3;refine nm.qC (Calls.mono (slices_Compact_int g 0 c zs w hH ag pI) ?_);rintro e w' ⟨he,q,rfl⟩;generalize hcz:Go.Lib.compact zs=cz at *;generalize SW:cz++List.replicate (zs.length - cz.length) (0:Int)=ys at *
  have Ol:ys.length=zs.length:=by rw [<-SW,aZ,List.length_replicate];omega
  have fg:=Go.Lib.ownsRow_putRow (q:=q) (k:=zs.length) (ys:=ys) F Ol (aH _);rw [jS ag] at fg;have o8:=hI.renew (i:=0) rfl (rows':=bC ys) (xs:=ys.map (Value.int .i64)) (w':=Go.Sort.putRow (Value.int .i64) (Go.Sort.ahead w q) g 0 ys.toArray) (by rw [ew,ew,Ol]) (by rw [ew,Ol];exact fg) (Fy _) (Kc _)
   (by
    have:=(JO (w:=w) (g:=g) (q:=q) (d:=ys.toArray) (os:=#[]));rw [Go.Sort.grow_empty] at this
    exact this.mono fun b _ hb=>by rw [hb];rfl)
  obtain ⟨K',hK,hr,VL⟩:=o8.Dd (i:=0) rfl;refine ⟨_,he,K',β,ints cz,_,VL,?_,rfl,_,_,rfl⟩
  have kE:zs.length=(bC ys).length:=by rw [ew,Ol]
  rw [kE] at hr;have Hc:=Rz hr (fun e=>Hv (gQ (by rw [kE,e];rfl)))
  have VS:cz.length=(cz.map fun i=>[GV.v (ii i)]).length:=by simp
  rw [VS];refine .sl g 0 c 1 _ (fun i r h=>?_) (by rw [<-VS];omega);refine Hc i r ?_;have hi:=(bh h).1;rw [bS] at hi;rw [<-SW];unfold bC;rw [o0,kl (by rw [bS];exact hi)];exact h
end Go.Xg
namespace Go.Im
open Go.Xp Go.Sp
end Go.Im
namespace Go.Xg
open Go.RowKit Go.Xw Go.Proofs
open Go.Xp (Nd T Ar aO aC bZ)
open Go.Sp (Src)
open Go.Im
attribute [local irreducible] GW GL GO YG GC GA ba bc
end Go.Xg
set_option maxHeartbeats 1000000
namespace Go.Xg
open GV (U)
open Go.RowKit Go.Xw Go.Proofs Tryz
open Go.Xp (Tok Nd T br one levels Ar)
open Go.Sp
attribute [local irreducible] GW GL GO YG GC GA ba bc
theorem XJ (p:Src) (hp:p.nodes.length<=1000000000000) (hk:∀ n∈p.nodes,n.kids.length<=1000000000000):∀ (f a d:Nat) (e:Int),d<=801->pj p.nodes f a d=some e->GF prog 109 [.agg (ao p),.v (ii (a:Nat)),.v (ii (d:Nat))] [] (.v (ii e)) []:=by
 intro f
 induction f using Nat.strongRecOn with
 | _ f ih =>
 intro a d e hd h
 cases f with
 | zero=>simp [pj] at h
 | succ f =>
 rw [pj] at h;refine dT func109 ntmps109 ?_
 by_cases I:p.nodes.length<=a
 ·rw [ae (.inl I)] at h;cases h
  have c7:decide (((p.nodes.map aB).length:Int)<=(a:Int))=true:=by simpa using I
  exact ax
 have c7:decide (((p.nodes.map aB).length:Int)<=(a:Int))=false:=by simpa using I
 by_cases F:d > 800
 ·rw [ae (.inr F)] at h;cases h
  have rz:decide ((800:Int) < (d:Int))=true:=by simpa using by omega
  exact ax
 have rz:decide ((800:Int) < (d:Int))=false:=by simpa using by omega
 rw [ab ag] at h
 cases hn:p.nodes[a]? with
 | none=>rw [hn] at h;cases h
 | some n =>
 rw [hn] at h;simp only at h;have hr:=ia hn;have eS:=hk n (bm hn);refine G ?_
 refine GW.range (n.kids.map fun i=>[GV.v (ii i)]).length (fun k fr Γ=>∃ nx g,fr=[U,.v (ii (a:Nat)),.v (ii (d:Nat)),.loc 0 0,U,U,U,.v (ii nx),U,U,U,U,U,U,U,U,U,U,U,U,U,U,U,U,U,U,ints n.kids,.v (ii ((n.kids.map fun i=>[GV.v (ii i)]).length:Int)),.v (ii (k:Nat)),U,U,U,U,U,U,U,U,U,U,U,U,U,U,U] /\
   Γ=[.box 34 (ao p)]/\0<=nx/\g<=f/\oa p.nodes g (n.kids.drop k) nx d=some e) ?_ (by simp;omega) ?_ ?_ ?_
 ·exact ⟨_,_,Wk.aK av,_,f,rfl,rfl,by omega,aH _,h⟩
 ·rintro k _ _ ⟨_,_,rfl,rfl,_⟩;exact dI
 ·rintro k _ _ ar ⟨nx,g,rfl,rfl,jZ,hg,h⟩
  have ar:k < n.kids.length:=by simpa using ar
  have hx:n.kids[k]?=some n.kids[k]:=by simp [ar]
  rw [nl ar] at h;generalize n.kids[k]=x at *;have uD:=iR hx
  cases g with
  | zero=>simp [oa] at h
  | succ g =>
  rw [oa] at h
  by_cases hxn:x=nx
  ·subst hxn;rw [ae rfl] at h
   have hb:(x != x)=false:=by simp
   cases bI:pj p.nodes g x.toNat (d+1) with
   | none=>rw [bI] at h;cases h
   | some y =>
   rw [bI] at h;simp only at h;have zN:=ih g ag x.toNat (d+1) y ag bI;rw [Int.toNat_of_nonneg jZ] at zN
   by_cases hy:y < 0
   ·rw [ae hy] at h;cases h
    have hy':decide (y < (0:Int))=true:=by simpa using hy
    refine G ?_;refine D [] zN ?_;exact ak
   ·rw [ab hy] at h
    have hy':decide (y < (0:Int))=false:=by simpa using hy
    refine G ?_;refine D [] zN ?_;exact ⟨rfl,rfl,_,_,Wk.aK av,_,g,rfl,rfl,by omega,by omega,h⟩
  ·rw [ab hxn] at h;cases h
   have hb:(x != nx)=true:=by simpa using hxn
   exact ax
 ·rintro _ _ ⟨nx,g,rfl,rfl,jZ,hg,h⟩;rw [bS,List.drop_length] at h
  have lY:nx=e:=by cases g <;> (rw [oa] at h;cases h;rfl)
  subst lY;exact ax
theorem Yl (a n:Int) (s:ah) (ks:List Int) (l:List T) (hs:s.length<=1099511627776) (hl:l.length<=1099511627776) (ha:decide (a < 0)=false):GF prog 146 [.agg (cT (.mk ⟨1,a,n,s,ks⟩ l))] [] (.v (.bool (bU (.mk ⟨1,a,n,s,ks⟩ l)))) []:=by
 have how:bU (.mk ⟨1,a,n,s,ks⟩ l)=(decide ((0:Int)<=n)&&(decide (n<=2147483647)&&((s==[])&&((l.length:Int)==0)))):=by unfold bU own;rw [ab (by show ¬ (decide (a < 0)=true);rw [ha];decide)];rfl
 rw [how];refine dT func146 ntmps146 ?_
 cases h0:decide ((0:Int)<=n) with
 | false =>
  exact ax
 | true =>
  cases I:decide (n<=2147483647) with
  | false =>
   exact ax
  | true =>
   cases F:(s==[]) with
   | false =>
    exact ax
   | true =>
    refine G ?_;refine bV ?_;exact ⟨by first | rfl | (rw [aW];rfl),rfl⟩
theorem Ym (a:Int) (s:ah) (ks:List Int) (l:List T) (hs:s.length<=1099511627776) (hl:l.length<=1099511627776) (ha:decide (a < 0)=false):GF prog 146 [.agg (cT (.mk ⟨2,a,0,s,ks⟩ l))] [] (.v (.bool (bU (.mk ⟨2,a,0,s,ks⟩ l)))) []:=by
 have how:bU (.mk ⟨2,a,0,s,ks⟩ l)=(bx s&&((l.length:Int)==0)):=by unfold bU own;rw [ab (by show ¬ (decide (a < 0)=true);rw [ha];decide)];rfl
 rw [how];refine dT func146 ntmps146 ?_
 cases h0:bx s with
 | false =>
  refine G ?_;have hc:=eH s hs;rw [h0] at hc;refine D [] hc ?_;exact ak
 | true =>
  refine G ?_;have hc:=eH s hs;rw [h0] at hc;refine D [] hc ?_;refine bV ?_;exact ⟨by first | rfl | (rw [aW];rfl),rfl⟩
theorem Yn (a:Int) (s:ah) (ks:List Int) (l:List T) (hs:s.length<=1099511627776) (hl:l.length<=1099511627776) (ha:decide (a < 0)=false):GF prog 146 [.agg (cT (.mk ⟨3,a,0,s,ks⟩ l))] [] (.v (.bool (bU (.mk ⟨3,a,0,s,ks⟩ l)))) []:=by
 have how:bU (.mk ⟨3,a,0,s,ks⟩ l)=(bx s&&(((l.length:Int)==1)&&bt 1 0 l)):=by unfold bU own;rw [ab (by show ¬ (decide (a < 0)=true);rw [ha];decide)];rfl
 rw [how];refine dT func146 ntmps146 ?_
 cases h0:bx s with
 | false =>
  refine G ?_;have hc:=eH s hs;rw [h0] at hc;refine D [] hc ?_;exact ak
 | true =>
  cases I:((l.length:Int)==1) with
  | false =>
   have c7:((((aU l).length:Int)==1))=false:=by rw [<-aW l] at I;exact I
   refine G ?_;have hc:=eH s hs;rw [h0] at hc;refine D [] hc ?_;exact ak
  | true =>
   have c7:((((aU l).length:Int)==1))=true:=by rw [<-aW l] at I;exact I
   refine G ?_;have hc:=eH s hs;rw [h0] at hc;refine D [] hc ?_;have hc:=fM (.mk ⟨3,a,0,s,ks⟩ l) 1 hl;refine D [] hc ?_;refine bV ?_;exact ⟨by first | rfl | (rw [aW];rfl),rfl⟩
theorem Yo (a:Int) (s:ah) (ks:List Int) (l:List T) (hs:s.length<=1099511627776) (hl:l.length<=1099511627776) (ha:decide (a < 0)=false):GF prog 146 [.agg (cT (.mk ⟨4,a,0,s,ks⟩ l))] [] (.v (.bool (bU (.mk ⟨4,a,0,s,ks⟩ l)))) []:=by
 have how:bU (.mk ⟨4,a,0,s,ks⟩ l)=(bx s&&bt l.length 0 l):=by unfold bU own;rw [ab (by show ¬ (decide (a < 0)=true);rw [ha];decide)];rfl
 rw [how];refine dT func146 ntmps146 ?_
 cases h0:bx s with
 | false =>
  refine G ?_;have hc:=eH s hs;rw [h0] at hc;refine D [] hc ?_;exact ak
 | true =>
  refine G ?_;have hc:=eH s hs;rw [h0] at hc;refine D [] hc ?_;have hc:=fM (.mk ⟨4,a,0,s,ks⟩ l) (aU l).length hl;refine D [] hc ?_;refine bV ?_;exact ⟨by first | rfl | (rw [aW];rfl),rfl⟩
theorem Yq (a:Int) (s:ah) (ks:List Int) (l:List T) (hs:s.length<=1099511627776) (hl:l.length<=1099511627776) (ha:decide (a < 0)=false):GF prog 146 [.agg (cT (.mk ⟨6,a,0,s,ks⟩ l))] [] (.v (.bool (bU (.mk ⟨6,a,0,s,ks⟩ l)))) []:=by
 have how:bU (.mk ⟨6,a,0,s,ks⟩ l)=(fa s&&(((l.length:Int)==2)&&bt 2 0 l)):=by unfold bU own;rw [ab (by show ¬ (decide (a < 0)=true);rw [ha];decide)];rfl
 rw [how];refine dT func146 ntmps146 ?_
 cases h0:fa s with
 | false =>
  refine G ?_;have hc:=uI s;rw [h0] at hc;refine D [] hc ?_;exact ak
 | true =>
  cases I:((l.length:Int)==2) with
  | false =>
   have c7:((((aU l).length:Int)==2))=false:=by rw [<-aW l] at I;exact I
   refine G ?_;have hc:=uI s;rw [h0] at hc;refine D [] hc ?_;exact ak
  | true =>
   have c7:((((aU l).length:Int)==2))=true:=by rw [<-aW l] at I;exact I
   refine G ?_;have hc:=uI s;rw [h0] at hc;refine D [] hc ?_;have hc:=fM (.mk ⟨6,a,0,s,ks⟩ l) 2 hl;refine D [] hc ?_;refine bV ?_;exact ⟨by first | rfl | (rw [aW];rfl),rfl⟩
theorem Yr (a:Int) (s:ah) (ks:List Int) (l:List T) (hs:s.length<=1099511627776) (hl:l.length<=1099511627776) (ha:decide (a < 0)=false):GF prog 146 [.agg (cT (.mk ⟨7,a,0,s,ks⟩ l))] [] (.v (.bool (bU (.mk ⟨7,a,0,s,ks⟩ l)))) []:=by
 have how:bU (.mk ⟨7,a,0,s,ks⟩ l)=(bx s&&(((l.length:Int)==1)&&bt 1 0 l)):=by unfold bU own;rw [ab (by show ¬ (decide (a < 0)=true);rw [ha];decide)];rfl
 rw [how];refine dT func146 ntmps146 ?_
 cases h0:bx s with
 | false =>
  refine G ?_;have hc:=eH s hs;rw [h0] at hc;refine D [] hc ?_;exact ak
 | true =>
  cases I:((l.length:Int)==1) with
  | false =>
   have c7:((((aU l).length:Int)==1))=false:=by rw [<-aW l] at I;exact I
   refine G ?_;have hc:=eH s hs;rw [h0] at hc;refine D [] hc ?_;exact ak
  | true =>
   have c7:((((aU l).length:Int)==1))=true:=by rw [<-aW l] at I;exact I
   refine G ?_;have hc:=eH s hs;rw [h0] at hc;refine D [] hc ?_;have hc:=fM (.mk ⟨7,a,0,s,ks⟩ l) 1 hl;refine D [] hc ?_;refine bV ?_;exact ⟨by first | rfl | (rw [aW];rfl),rfl⟩
theorem Ys (a:Int) (s:ah) (ks:List Int) (l:List T) (hs:s.length<=1099511627776) (hl:l.length<=1099511627776) (ha:decide (a < 0)=false):GF prog 146 [.agg (cT (.mk ⟨8,a,0,s,ks⟩ l))] [] (.v (.bool (bU (.mk ⟨8,a,0,s,ks⟩ l)))) []:=by
 have how:bU (.mk ⟨8,a,0,s,ks⟩ l)=(bx s&&(((l.length:Int)==2)&&bt 2 0 l)):=by unfold bU own;rw [ab (by show ¬ (decide (a < 0)=true);rw [ha];decide)];rfl
 rw [how];refine dT func146 ntmps146 ?_
 cases h0:bx s with
 | false =>
  refine G ?_;have hc:=eH s hs;rw [h0] at hc;refine D [] hc ?_;exact ak
 | true =>
  cases I:((l.length:Int)==2) with
  | false =>
   have c7:((((aU l).length:Int)==2))=false:=by rw [<-aW l] at I;exact I
   refine G ?_;have hc:=eH s hs;rw [h0] at hc;refine D [] hc ?_;exact ak
  | true =>
   have c7:((((aU l).length:Int)==2))=true:=by rw [<-aW l] at I;exact I
   refine G ?_;have hc:=eH s hs;rw [h0] at hc;refine D [] hc ?_;have hc:=fM (.mk ⟨8,a,0,s,ks⟩ l) 2 hl;refine D [] hc ?_;refine bV ?_;exact ⟨by first | rfl | (rw [aW];rfl),rfl⟩
theorem WQ (a:Int) (s:ah) (ks:List Int) (l:List T) (hs:s.length<=1099511627776) (hl:l.length<=1099511627776) (ha:decide (a < 0)=false):GF prog 146 [.agg (cT (.mk ⟨10,a,0,s,ks⟩ l))] [] (.v (.bool (bU (.mk ⟨10,a,0,s,ks⟩ l)))) []:=by
 have how:bU (.mk ⟨10,a,0,s,ks⟩ l)=((s==[])&&(((l.length:Int)==2)&&bt 1 0 l)):=by unfold bU own;rw [ab (by show ¬ (decide (a < 0)=true);rw [ha];decide)];rfl
 rw [how];refine dT func146 ntmps146 ?_
 cases h0:(s==[]) with
 | false =>
  exact ax
 | true =>
  cases I:((l.length:Int)==2) with
  | false =>
   have c7:((((aU l).length:Int)==2))=false:=by rw [<-aW l] at I;exact I
   exact ax
  | true =>
   have c7:((((aU l).length:Int)==2))=true:=by rw [<-aW l] at I;exact I
   refine G ?_;have hc:=fM (.mk ⟨10,a,0,s,ks⟩ l) 1 hl;refine D [] hc ?_;refine bV ?_;exact ⟨by first | rfl | (rw [aW];rfl),rfl⟩
theorem WR (a:Int) (s:ah) (ks:List Int) (l:List T) (hs:s.length<=1099511627776) (hl:l.length<=1099511627776) (ha:decide (a < 0)=false):GF prog 146 [.agg (cT (.mk ⟨11,a,0,s,ks⟩ l))] [] (.v (.bool (bU (.mk ⟨11,a,0,s,ks⟩ l)))) []:=by
 have how:bU (.mk ⟨11,a,0,s,ks⟩ l)=((s==[])&&(((l.length:Int)==1)&&bt 1 0 l)):=by unfold bU own;rw [ab (by show ¬ (decide (a < 0)=true);rw [ha];decide)];rfl
 rw [how];refine dT func146 ntmps146 ?_
 cases h0:(s==[]) with
 | false =>
  exact ax
 | true =>
  cases I:((l.length:Int)==1) with
  | false =>
   have c7:((((aU l).length:Int)==1))=false:=by rw [<-aW l] at I;exact I
   exact ax
  | true =>
   have c7:((((aU l).length:Int)==1))=true:=by rw [<-aW l] at I;exact I
   refine G ?_;have hc:=fM (.mk ⟨11,a,0,s,ks⟩ l) 1 hl;refine D [] hc ?_;refine bV ?_;exact ⟨by first | rfl | (rw [aW];rfl),rfl⟩
theorem WS (a:Int) (s:ah) (ks:List Int) (l:List T) (hs:s.length<=1099511627776) (hl:l.length<=1099511627776) (ha:decide (a < 0)=false):GF prog 146 [.agg (cT (.mk ⟨12,a,0,s,ks⟩ l))] [] (.v (.bool (bU (.mk ⟨12,a,0,s,ks⟩ l)))) []:=by
 have how:bU (.mk ⟨12,a,0,s,ks⟩ l)=((s==[])&&(((l.length:Int)==1)&&bt 1 0 l)):=by unfold bU own;rw [ab (by show ¬ (decide (a < 0)=true);rw [ha];decide)];rfl
 rw [how];refine dT func146 ntmps146 ?_
 cases h0:(s==[]) with
 | false =>
  exact ax
 | true =>
  cases I:((l.length:Int)==1) with
  | false =>
   have c7:((((aU l).length:Int)==1))=false:=by rw [<-aW l] at I;exact I
   exact ax
  | true =>
   have c7:((((aU l).length:Int)==1))=true:=by rw [<-aW l] at I;exact I
   refine G ?_;have hc:=fM (.mk ⟨12,a,0,s,ks⟩ l) 1 hl;refine D [] hc ?_;refine bV ?_;exact ⟨by first | rfl | (rw [aW];rfl),rfl⟩
theorem WT (a:Int) (s:ah) (ks:List Int) (l:List T) (hs:s.length<=1099511627776) (hl:l.length<=1099511627776) (ha:decide (a < 0)=false):GF prog 146 [.agg (cT (.mk ⟨13,a,0,s,ks⟩ l))] [] (.v (.bool (bU (.mk ⟨13,a,0,s,ks⟩ l)))) []:=by
 have how:bU (.mk ⟨13,a,0,s,ks⟩ l)=(bx s&&(((l.length:Int)==1)&&bt 1 0 l)):=by unfold bU own;rw [ab (by show ¬ (decide (a < 0)=true);rw [ha];decide)];rfl
 rw [how];refine dT func146 ntmps146 ?_
 cases h0:bx s with
 | false =>
  refine G ?_;have hc:=eH s hs;rw [h0] at hc;refine D [] hc ?_;exact ak
 | true =>
  cases I:((l.length:Int)==1) with
  | false =>
   have c7:((((aU l).length:Int)==1))=false:=by rw [<-aW l] at I;exact I
   refine G ?_;have hc:=eH s hs;rw [h0] at hc;refine D [] hc ?_;exact ak
  | true =>
   have c7:((((aU l).length:Int)==1))=true:=by rw [<-aW l] at I;exact I
   refine G ?_;have hc:=eH s hs;rw [h0] at hc;refine D [] hc ?_;have hc:=fM (.mk ⟨13,a,0,s,ks⟩ l) 1 hl;refine D [] hc ?_;refine bV ?_;exact ⟨by first | rfl | (rw [aW];rfl),rfl⟩
theorem Yp (a:Int) (s:ah) (ks:List Int) (l:List T) (hs:s.length<=1099511627776) (hl:l.length<=1099511627776) (ha:decide (a < 0)=false):GF prog 146 [.agg (cT (.mk ⟨5,a,0,s,ks⟩ l))] [] (.v (.bool (bU (.mk ⟨5,a,0,s,ks⟩ l)))) []:=by
 have how:bU (.mk ⟨5,a,0,s,ks⟩ l)=((s==[45] || s==[33] || s==[126])&&(((l.length:Int)==1)&&bt 1 0 l)):=by unfold bU own;rw [ab (by show ¬ (decide (a < 0)=true);rw [ha];decide)];rfl
 rw [how];refine dT func146 ntmps146 ?_
 cases I:(s==[45]) with
 | true =>
  cases h4:((l.length:Int)==1) with
  | false =>
   have NS:(((aU l).length:Int)==1)=false:=by rw [<-aW l] at h4;exact h4
   exact ax
  | true =>
   have NS:(((aU l).length:Int)==1)=true:=by rw [<-aW l] at h4;exact h4
   refine G ?_;have hc:=fM (.mk ⟨5,a,0,s,ks⟩ l) 1 hl;refine D [] hc ?_;exact ak
 | false =>
  cases F:(s==[33]) with
  | true =>
   cases h4:((l.length:Int)==1) with
   | false =>
    have NS:(((aU l).length:Int)==1)=false:=by rw [<-aW l] at h4;exact h4
    exact ax
   | true =>
    have NS:(((aU l).length:Int)==1)=true:=by rw [<-aW l] at h4;exact h4
    refine G ?_;have hc:=fM (.mk ⟨5,a,0,s,ks⟩ l) 1 hl;refine D [] hc ?_;exact ak
  | false =>
   cases h3:(s==[126]) with
   | false =>
    exact ax
   | true =>
    cases h4:((l.length:Int)==1) with
    | false =>
     have NS:(((aU l).length:Int)==1)=false:=by rw [<-aW l] at h4;exact h4
     exact ax
    | true =>
     have NS:(((aU l).length:Int)==1)=true:=by rw [<-aW l] at h4;exact h4
     refine G ?_;have hc:=fM (.mk ⟨5,a,0,s,ks⟩ l) 1 hl;refine D [] hc ?_;exact ak
theorem Yt (a:Int) (s:ah) (ks:List Int) (l:List T) (hs:s.length<=1099511627776) (hl:l.length<=1099511627776) (ha:decide (a < 0)=false):GF prog 146 [.agg (cT (.mk ⟨9,a,0,s,ks⟩ l))] [] (.v (.bool (bU (.mk ⟨9,a,0,s,ks⟩ l)))) []:=by
 have how:bU (.mk ⟨9,a,0,s,ks⟩ l)=((s==[])&&((((l.length:Int)==2) || ((l.length:Int)==3))&&bt 1 0 l)):=by unfold bU own;rw [ab (by show ¬ (decide (a < 0)=true);rw [ha];decide)];rfl
 rw [how];refine dT func146 ntmps146 ?_
 cases h0:(s==[]) with
 | false =>
  exact ax
 | true =>
  cases I:((l.length:Int)==2) with
  | true =>
   have c7:(((aU l).length:Int)==2)=true:=by rw [<-aW l] at I;exact I
   refine G ?_;have hc:=fM (.mk ⟨9,a,0,s,ks⟩ l) 1 hl;refine D [] hc ?_;exact ak
  | false =>
   have c7:(((aU l).length:Int)==2)=false:=by rw [<-aW l] at I;exact I
   cases F:((l.length:Int)==3) with
   | true =>
    have rz:(((aU l).length:Int)==3)=true:=by rw [<-aW l] at F;exact F
    refine G ?_;have hc:=fM (.mk ⟨9,a,0,s,ks⟩ l) 1 hl;refine D [] hc ?_;exact ak
   | false =>
    have rz:(((aU l).length:Int)==3)=false:=by rw [<-aW l] at F;exact F
    exact ax
theorem WU (a:Int) (s:ah) (ks:List Int) (l:List T) (hs:s.length<=1099511627776) (hl:l.length<=1099511627776) (ha:decide (a < 0)=false):GF prog 146 [.agg (cT (.mk ⟨14,a,0,s,ks⟩ l))] [] (.v (.bool (bU (.mk ⟨14,a,0,s,ks⟩ l)))) []:=by
 have how:bU (.mk ⟨14,a,0,s,ks⟩ l)=((l.all fun x=>im x.n.kind)&&(s==[])):=by unfold bU own;rw [ab (by show ¬ (decide (a < 0)=true);rw [ha];decide)];rfl
 rw [how];refine ai func146 ntmps146 ?_;refine GW.range (aU l).length (fun k fr Γ=>∃ n,fr=[U,.loc 0 0,U,.loc 1 0,U,U,U,U,U,U,U,U,U,U,U,U,U,U,U,U,U,U,U,U,U,U,U,U,U,U,U,U,U,U,U,U,U,U,U,U,U,U,U,U,U,U,U,U,U,U,U,U,U,U,U,U,U,U,U,U,U,U,U,U,U,U,U,U,U,U,U,U,U,U,U,U,U,U,U,U,U,U,U,U,U,U,U,U,U,U,U,U,U,U,U,U,U,U,U,U,U,U,U,U,U,U,U,U,U,U,U,U,U,U,U,U,U,U,U,U,U,U,U,U,U,U,U,U,U,U,U,U,U,U,U,U,U,U,U,U,U,U,U,U,U,U,U,U,U,U,U,U,U,U,U,U,U,U,U,U,U,U,U,U,U,U,U,U,U,U,U,U,U,U,U,U,.sl 6 (aU l),.v (ii ((aU l).length:Int)),.v (ii (k:Nat)),U,U,U,U,U,U,U,U,U,U,U,U]/\Γ=[.box 75 (cT (.mk ⟨14,a,0,s,ks⟩ l)),.box 60 n]/\n=aB ⟨14,a,0,s,ks⟩/\((l.take k).all fun x=>im x.n.kind)=true) ?_ (by rw [aW];exact hl) ?_ ?_ ?_
 ·exact ⟨_,_,Wk.aK av,_,rfl,rfl,rfl,rfl⟩
 ·rintro k _ _ ⟨_,rfl,rfl,_⟩;exact dI
 ·rintro k _ _ hk ⟨_,rfl,rfl,rfl,hf⟩
  have hk:k < l.length:=by rw [aW] at hk;exact hk
  have hx:l[k]?=some l[k]:=by simp [hk]
  have hr:=cI hx;generalize l[k]=x at *;have he:=I1 x.n.kind
  cases hb:im x.n.kind with
  | true =>
   rw [hb] at he;refine G ?_;refine D [] he ?_;exact ⟨rfl,rfl,_,_,(Wk.cut (n:=2) (fi rfl) rfl).trans (Wk.aK av),_,rfl,rfl,rfl,by rw [cq,hx,all_append,hf];simp only [Option.toList,all_cons,all_nil,hb];rfl⟩
  | false =>
   rw [hb] at he;refine G ?_;refine D [] he ?_;refine bV ?_
   have ha:(l.all fun x=>im x.n.kind)=false:=by
    rw [all_eq_false];exact ⟨x,bm hx,by simp [hb]⟩
   rw [ha];exact ⟨rfl,rfl⟩
 ·rintro _ _ ⟨_,rfl,rfl,rfl,hf⟩
  have hf:(l.all fun x=>im x.n.kind)=true:=by
   rw [jS (by rw [aW];omega)] at hf;exact hf
  rw [hf];exact ax
theorem Yx (k a n:Int) (s:ah) (ks:List Int) (l:List T) (hk:k=1\/k=2\/k=3\/k=4\/k=5\/k=6\/k=7\/k=8\/k=9\/k=10\/k=11\/k=12\/k=13\/k=14\/True) (hx:¬ (k=1\/k=2\/k=3\/k=4\/k=5\/k=6\/k=7\/k=8\/k=9\/k=10\/k=11\/k=12\/k=13\/k=14)) (ha:decide (a < 0)=false) (hn:(n != 0)=false):GF prog 146 [.agg (cT (.mk ⟨k,a,n,s,ks⟩ l))] [] (.v (.bool (bU (.mk ⟨k,a,n,s,ks⟩ l)))) []:=by
 simp only [not_or] at hx;obtain ⟨I,F,h3,h4,h5,h6,h7,h8,h9,ma,pE,o7,fu,CA⟩:=hx
 have I:(k==1)=false:=by simpa using I
 have h1x:(k != 1)=true:=by simp only [bne,I];rfl
 have F:(k==2)=false:=by simpa using F
 have h3:(k==3)=false:=by simpa using h3
 have h4:(k==4)=false:=by simpa using h4
 have h5:(k==5)=false:=by simpa using h5
 have h6:(k==6)=false:=by simpa using h6
 have h7:(k==7)=false:=by simpa using h7
 have h8:(k==8)=false:=by simpa using h8
 have h9:(k==9)=false:=by simpa using h9
 have ma:(k==10)=false:=by simpa using ma
 have pE:(k==11)=false:=by simpa using pE
 have o7:(k==12)=false:=by simpa using o7
 have fu:(k==13)=false:=by simpa using fu
 have CA:(k==14)=false:=by simpa using CA
 have how:bU (.mk ⟨k,a,n,s,ks⟩ l)=false:=by
  show own ⟨k,a,n,s,ks⟩ _ _ _=_;simp [own,I,F,h3,h4,h5,h6,h7,h8,h9,ma,pE,o7,fu,CA]
 rw [how];refine ai func146 ntmps146 ?_;exact ak
theorem Yu (k a n:Int) (s:ah) (ks:List Int) (l:List T) (ha:decide (a < 0)=true):GF prog 146 [.agg (cT (.mk ⟨k,a,n,s,ks⟩ l))] [] (.v (.bool (bU (.mk ⟨k,a,n,s,ks⟩ l)))) []:=by
 have how:bU (.mk ⟨k,a,n,s,ks⟩ l)=false:=by
  show own ⟨k,a,n,s,ks⟩ _ _ _=_;unfold own;rw [ae ha]
 rw [how];refine ai func146 ntmps146 ?_;exact ak
theorem Yw (k a n:Int) (s:ah) (ks:List Int) (l:List T) (ha:decide (a < 0)=false) (hk:(k != 1)=true) (hn:(n != 0)=true):GF prog 146 [.agg (cT (.mk ⟨k,a,n,s,ks⟩ l))] [] (.v (.bool (bU (.mk ⟨k,a,n,s,ks⟩ l)))) []:=by
 have how:bU (.mk ⟨k,a,n,s,ks⟩ l)=false:=by
  show own ⟨k,a,n,s,ks⟩ _ _ _=_;unfold own;rw [ab (by show ¬ (decide (a < 0)=true);rw [ha];decide),ae (by show ((k != 1)&&(n != 0))=true;rw [hk,hn];rfl)]
 rw [how];refine ai func146 ntmps146 ?_;exact ak
theorem QR (t:T) (hs:t.n.s.length<=1099511627776) (hl:t.kids.length<=1099511627776):GF prog 146 [.agg (cT t)] [] (.v (.bool (bU t))) []:=by
 obtain ⟨⟨k,a,n,s,ks⟩,l⟩:=t
 cases ha:decide (a < 0) with
 | true=>exact Yu k a n s ks l ha
 | false =>
 by_cases vk:k=1
 ·subst vk;exact Yl a n s ks l hs hl ha
 by_cases hn:n=0
 ·subst hn
  by_cases h:k=1\/k=2\/k=3\/k=4\/k=5\/k=6\/k=7\/k=8\/k=9\/k=10\/k=11\/k=12\/k=13\/k=14
  ·rcases h with rfl | rfl | rfl | rfl | rfl | rfl | rfl | rfl | rfl | rfl | rfl | rfl | rfl | rfl
   ·exact absurd rfl vk
   ·exact Ym a s ks l hs hl ha
   ·exact Yn a s ks l hs hl ha
   ·exact Yo a s ks l hs hl ha
   ·exact Yp a s ks l hs hl ha
   ·exact Yq a s ks l hs hl ha
   ·exact Yr a s ks l hs hl ha
   ·exact Ys a s ks l hs hl ha
   ·exact Yt a s ks l hs hl ha
   ·exact WQ a s ks l hs hl ha
   ·exact WR a s ks l hs hl ha
   ·exact WS a s ks l hs hl ha
   ·exact WT a s ks l hs hl ha
   ·exact WU a s ks l hs hl ha
  ·exact Yx k a 0 s ks l (by simp) h ha rfl
 ·exact Yw k a n s ks l ha (by simpa using vk) (by simpa using hn)
theorem MQ (l:List T):b8 l=l.all du:=by
 induction l with
 | nil=>simp [b8]
 | cons a l ih=>simp [b8,ih]
theorem QQ:∀ (sz:Nat) (t:T),SizeOf.sizeOf t<=sz->H7 t->GF prog 110 [.agg (cT t)] [] (.v (.bool (du t))) []:=by
 intro sz
 induction sz with
 | zero=>intro t h _;cases t;simp at h
 | succ sz ih =>
 intro t cB jK;obtain ⟨n,l⟩:=t;have aa9:=jK;rw [H7] at jK;obtain ⟨hs,hl,hm⟩:=jK
 have how:du (.mk n l)=(b8 l&&bU (.mk n l)):=by rw [du]
 rw [how];rw [MQ];refine ai func110 ntmps110 ?_;refine GW.range (aU l).length (fun k fr Γ=>fr=[U,.loc 0 0,U,U,U,U,.sl 6 (aU l),.v (ii ((aU l).length:Int)),.v (ii (k:Nat)),U,U,U,U,U,U,U,U,U]/\Γ=[.box 75 (cT (.mk n l))]/\((l.take k).all du)=true) ?_ (by rw [aW];exact hl) ?_ ?_ ?_
 ·exact jW
 ·exact ig
 ·rintro k _ _ hk ⟨rfl,rfl,hf⟩
  have hk:k < l.length:=by rw [aW] at hk;exact hk
  have hx:l[k]?=some l[k]:=by simp [hk]
  have DM:=bm hx;have ar:=List.sizeOf_lt_of_mem DM;have hr:=cI hx;have he:=ih l[k] (by simp at cB;omega) (H9 hm DM);generalize l[k]=x at *
  cases hb:du x with
  | true =>
   rw [hb] at he;refine G ?_;refine D [] he ?_;exact ⟨rfl,rfl,_,_,(Wk.cut (n:=1) (fi rfl) rfl).trans (Wk.aK av),rfl,rfl,by rw [cq,hx,all_append,hf];simp only [Option.toList,all_cons,all_nil,hb];rfl⟩
  | false =>
   rw [hb] at he;refine G ?_;refine D [] he ?_;refine bV ?_
   have ha:(l.all du)=false:=by
    rw [all_eq_false];exact ⟨x,bm hx,by simp [hb]⟩
   rw [ha];exact ⟨rfl,rfl⟩
 ·rintro _ _ ⟨rfl,rfl,hf⟩
  have hf:(l.all du)=true:=by
   rw [jS (by rw [aW];omega)] at hf;exact hf
  rw [hf];refine G ?_;refine D [] (QR (.mk n l) hs hl) ?_;exact ak
theorem QP (t:T) (h:H7 t):GF prog 110 [.agg (cT t)] [] (.v (.bool (du t))) []:=QQ _ t (aH _) h
structure De (p:Src):Prop where
 globals:p.globals.length<=1000000000000/\∀ s∈p.globals,s.length<=1000000000000
 arrays:p.arrays.length<=1000000000000/\∀ a∈p.arrays,a.name.length<=1000000000000
 fns:p.fns.length<=1000000000000/\∀ f∈p.fns,f.name.length<=1000000000000/\f.params.length<=1000000000000/\∀ s∈f.params,s.length<=1000000000000
 nodes:p.nodes.length<=1000000000000/\∀ n∈p.nodes,n.s.length<=1000000000000/\n.kids.length<=1000000000000
theorem KA {l:List ah} {i:Nat} {s:ah} (h:l[i]?=some s):(l.map fun s=>[GV.v (sv s)])[i]?=some [.v (sv s)]:=by rw [aV,h];rfl
theorem HX {l:List Ar} {i:Nat} {s:Ar} (h:l[i]?=some s):(l.map aL)[i]?=some (aL s):=by rw [aV,h];rfl
theorem C8 {l:List Go.Sp.Fn} {i:Nat} {s:Go.Sp.Fn} (h:l[i]?=some s):(l.map ay)[i]?=some (ay s):=by rw [aV,h];rfl
theorem vS {α:Type} {l:List α} {q:α->Bool} {k:Nat} {x:α} (hx:l[k]?=some x) (hb:q x=false):l.all q=false:=by
 rw [all_eq_false];exact ⟨x,bm hx,by simp [hb]⟩
theorem CV (p:Src) (hp:De p) (b:Bool) (h:oX p=some b):GF prog 87 [.agg (ao p)] [] (.v (.bool b)) []:=by
 unfold oX at h;refine ai func87 ntmps87 ?_;refine GW.range (p.globals.map fun s=>[GV.v (sv s)]).length (fun k fr Γ=>fr=[U,.loc 0 0,U,.v (ii 0),U,U,U,U,U,U,U,U,U,U,U,strs p.globals,.v (ii ((p.globals.map fun s=>[GV.v (sv s)]).length:Int)),.v (ii (k:Nat)),U,U,U,U,U,U,U,U,U,U,U,U,U,U,U,U,U,U,U,U,U,U,U,U,U,U,U,U,U,U,U,U,U,U,U,U,U,U,U,U,U,U,U,U,U,U,U,U,U,U,U,U,U,U,U,U,U,U,U,U,U,U,U,U,U,U,U,U,U,U,U,U,U,U,U,U,U,U,U,U,U,U,U,U,U,U,U]/\Γ=[.box 34 (ao p)]/\((p.globals.take k).all bx)=true) ?_ (by simpa using by have:=hp.globals.1;omega) ?_ ?_ ?_
 ·exact jW
 ·exact ig
 ·rintro k _ _ hk ⟨rfl,rfl,hf⟩
  have hk:k < p.globals.length:=by simpa using hk
  have hx:p.globals[k]?=some p.globals[k]:=by simp [hk]
  have hr:=KA hx;have hl:=hp.globals.2 _ (bm hx);generalize p.globals[k]=x at *;have he:=eH x ag
  cases hb:bx x with
  | true =>
   rw [hb] at he;refine G ?_;refine D [] he ?_;exact ⟨rfl,rfl,_,_,Wk.aK av,rfl,rfl,ue hx hf hb⟩
  | false =>
   rw [hb] at he;rw [ae (show cH p.globals=false from vS hx hb)] at h;cases h;refine G ?_;refine D [] he ?_;exact ak
 ·rintro _ _ ⟨rfl,rfl,hf⟩;rw [jS (by simp)] at hf;rw [ab (by rw [show cH p.globals=true from hf];decide)] at h;refine G ?_;refine GW.range (p.arrays.map aL).length (fun k fr Γ=>fr=[U,.loc 0 0,U,.v (ii 0),U,U,U,U,U,U,U,U,U,U,U,U,U,U,U,U,U,U,U,U,U,U,.sl 2 (p.arrays.map aL),.v (ii ((p.arrays.map aL).length:Int)),.v (ii (k:Nat)),U,U,U,U,U,U,U,U,U,U,U,U,U,U,U,U,U,U,U,U,U,U,U,U,U,U,U,U,U,U,U,U,U,U,U,U,U,U,U,U,U,U,U,U,U,U,U,U,U,U,U,U,U,U,U,U,U,U,U,U,U,U,U,U,U,U,U,U,U,U,U,U,U,U,U,U]/\Γ=[.box 34 (ao p)]/\((p.arrays.take k).all ph)=true) ?_ (by simpa using by have:=hp.arrays.1;omega) ?_ ?_ ?_
  ·exact jW
  ·exact ig
  ·rintro k _ _ hk ⟨rfl,rfl,hf⟩
   have hk:k < p.arrays.length:=by simpa using hk
   have hx:p.arrays[k]?=some p.arrays[k]:=by simp [hk]
   have hr:=HX hx;have hl:=hp.arrays.2 _ (bm hx);generalize p.arrays[k]=x at *;have he:=eH x.name ag
   cases hb:bx x.name with
   | false =>
    rw [hb] at he;rw [ae (vS hx (by simp [ph,hb]))] at h;cases h;refine G ?_;refine D [] he ?_;exact ak
   | true =>
    rw [hb] at he
    cases I:decide (x.size < 0) with
    | true =>
     rw [ae (vS hx (by simp only [ph,hb,I];rfl))] at h;cases h;refine G ?_;refine D [] he ?_;exact ak
    | false =>
     cases F:decide (2147483647 < x.size) with
     | true =>
      rw [ae (vS hx (by simp only [ph,hb,I,F];rfl))] at h;cases h;refine G ?_;refine D [] he ?_;exact ak
     | false =>
      refine G ?_;refine D [] he ?_;exact ⟨rfl,rfl,_,_,(Wk.cut (n:=1) (fi rfl) rfl).trans (Wk.aK av),rfl,rfl,ue hx hf (by simp only [ph,hb,I,F];rfl)⟩
  ·rintro _ _ ⟨rfl,rfl,hf⟩;rw [jS (by simp)] at hf;rw [ab (by rw [hf];decide)] at h;refine G ?_;refine GW.range (p.fns.map ay).length (fun k fr Γ=>∃ nx,fr=[U,.loc 0 0,U,.v (ii nx),U,U,U,U,U,U,U,U,U,U,U,U,U,U,U,U,U,U,U,U,U,U,U,U,U,U,U,U,U,U,U,U,U,U,U,U,U,U,U,U,U,U,U,U,.sl 3 (p.fns.map ay),.v (ii ((p.fns.map ay).length:Int)),.v (ii (k:Nat)),U,U,U,U,U,U,U,U,U,U,U,U,U,U,U,U,U,U,U,U,U,U,U,U,U,U,U,U,U,U,U,U,U,U,U,U,U,U,U,U,U,U,U,U,U,U,U,U,U,U,U,U,U,U]/\Γ=[.box 34 (ao p)]/\0<=nx/\(match gY p.nodes (p.fns.drop k) nx with | none=>none | some none=>some false | some (some next)=>some (next==(p.nodes.length:Int)&&decide (next<=800)))=some b) ?_ (by simpa using by have:=hp.fns.1;omega) ?_ ?_ ?_
   ·exact ⟨_,_,Wk.aK av,_,rfl,rfl,Int.le_refl _,h⟩
   ·rintro k _ _ ⟨_,rfl,rfl,_⟩;exact dI
   ·clear h hf;rintro k _ _ hk ⟨nx,rfl,rfl,jZ,h⟩
    have hk:k < p.fns.length:=by simpa using hk
    have hx:p.fns[k]?=some p.fns[k]:=by simp [hk]
    have hr:=C8 hx;have hl:=hp.fns.2 _ (bm hx);rw [nl hk,gY] at h;generalize p.fns[k]=x at *
    cases he:pj p.nodes (fN p.nodes) nx.toNat 0 with
    | none=>rw [he] at h;cases h
    | some e =>
    rw [he] at h;simp only at h;have qe:=XJ p hp.nodes.1 (fun n hn=>(hp.nodes.2 n hn).2) _ _ 0 _ ag he;rw [Int.toNat_of_nonneg jZ] at qe;have bX:=eH x.name ag
    by_cases I:x.body=nx
    ·have c7:(x.body != nx)=false:=by simpa using I
     cases hb:bx x.name with
     | false =>
      rw [hb] at bX;rw [ae (.inr (.inl hb))] at h;cases h;refine G ?_;refine D [] qe ?_;refine D [] bX ?_;exact ak
     | true =>
      rw [hb] at bX
      by_cases F:e < 0
      ·have rz:decide (e < 0)=true:=by simpa using F
       rw [ae (.inr (.inr F))] at h;cases h;refine G ?_;refine D [] qe ?_;refine D [] bX ?_;exact ak
      ·have rz:decide (e < 0)=false:=by simpa using F
       rw [ab (by rw [hb];simp [I,F])] at h;refine G ?_;refine D [] qe ?_;refine D [] bX ?_;refine GW.range (x.params.map fun s=>[GV.v (sv s)]).length (fun j fr Γ=>fr=[U,.loc 0 0,U,.v (ii nx),U,U,U,U,U,.loc 1 0,.v (ii e),U,U,U,U,U,U,U,U,U,U,U,U,U,U,U,U,U,U,U,U,U,U,U,U,U,U,U,U,U,U,U,U,U,U,U,U,U,.sl 3 (p.fns.map ay),.v (ii ((p.fns.map ay).length:Int)),.v (ii (k:Nat)),U,U,U,U,U,U,U,U,U,U,U,U,U,U,U,U,U,U,U,U,U,strs x.params,.v (ii ((x.params.map fun s=>[GV.v (sv s)]).length:Int)),.v (ii (j:Nat)),U,U,U,U,U,U,U,U,U,U,U,U,U,U,U,U,U,U,U,U,U,U,U,U,U,U,U,U,U,U]/\Γ=[.box 34 (ao p),.box 77 (ay x)]/\((x.params.take j).all bx)=true) ?_ (by simpa using by omega) ?_ ?_ ?_
       ·exact jW
       ·exact ig
       ·rintro j _ _ hj ⟨rfl,rfl,hf⟩
        have hj:j < x.params.length:=by simpa using hj
        have oz:x.params[j]?=some x.params[j]:=by simp [hj]
        have SM:=KA oz;have mu:=hl.2.2 _ (bm oz);generalize x.params[j]=y at *;have bW:=eH y ag
        cases hb:bx y with
        | true =>
         rw [hb] at bW;refine G ?_;refine D [] bW ?_;exact ⟨rfl,rfl,_,_,Wk.aK av,rfl,rfl,ue oz hf hb⟩
        | false =>
         rw [hb] at bW;rw [ae (show cH x.params=false from vS oz hb)] at h;cases h;refine G ?_;refine D [] bW ?_;exact ak
       ·rintro _ _ ⟨rfl,rfl,hf⟩;rw [jS (by simp)] at hf;rw [ab (by rw [show cH x.params=true from hf];decide)] at h
        cases hs:sub p.nodes (fN p.nodes) nx.toNat with
        | none=>rw [hs] at h;cases h
        | some t =>
        rw [hs] at h;simp only at h;have qU:=Dg p (fun n hn=>(hp.nodes.2 n hn).2) _ _ _ hs;rw [Int.toNat_of_nonneg jZ] at qU;have aY:=QP t ((Xc (fun n hn=>by have:=hp.nodes.2 n hn;omega) _).1 _ _ hs)
        by_cases h3:t.n.kind=14
        ·have kZ:(t.n.kind != 14)=false:=by simpa using h3
         cases hb:du t with
         | false =>
          rw [hb] at aY;rw [ae (.inr hb)] at h;cases h;refine G ?_;refine D [] qU ?_;refine D [] aY ?_;exact ak
         | true =>
          rw [hb] at aY;rw [ab (by rw [hb];simp [h3])] at h;refine G ?_;refine D [] qU ?_;refine D [] aY ?_;exact ⟨rfl,rfl,_,_,(Wk.cut (n:=1) (fi rfl) rfl).trans (Wk.aK av),_,rfl,rfl,by omega,h⟩
        ·have kZ:(t.n.kind != 14)=true:=by simpa using h3
         rw [ae (.inl h3)] at h;cases h;refine G ?_;refine D [] qU ?_;exact ak
    ·have c7:(x.body != nx)=true:=by simpa using I
     rw [ae (.inl I)] at h;cases h;refine G ?_;refine D [] qe ?_;exact ak
   ·clear h hf;rintro _ _ ⟨nx,rfl,rfl,jZ,h⟩;rw [bS,List.drop_length,gY] at h;simp only at h;cases h
    cases I:(nx==(p.nodes.length:Int)) with
    | false =>
     have c7:(nx==((p.nodes.map aB).length:Int))=false:=by rw [bS];exact I
     exact ax
    | true =>
     have c7:(nx==((p.nodes.map aB).length:Int))=true:=by rw [bS];exact I
     exact ax
def nK (k:Int) (s:ah):Int:=if k=6 then (match levels.findIdx? (fun l=>l.contains s) with | some i=>(i:Int) | none => -1) else 9
theorem LS (t:T):GF prog 225 [.agg (cT t)] [] (.v (.int .i64 (nK t.n.kind t.n.s))) []:=by
 refine dT func225 ntmps225 ?_
 by_cases h6:t.n.kind=6
 ·have h6':(t.n.kind != 6)=false:=by simpa using h6
  unfold nK;rw [ae h6];refine G ?_;refine D [] kr ?_;refine GW.range (levels.map fun l=>[strs l]).length (fun k fr Γ=>fr=[U,.loc 0 0,U,U,U,U,U,U,U,U,U,.sl 1 (levels.map fun l=>[strs l]),.v (ii ((levels.map fun l=>[strs l]).length:Int)),.v (ii (k:Nat)),U,U,U,U,U,U,U,U,U,U,U]/\Γ=[.box 75 (cT t)]/\((levels.take k).any fun l=>l.contains t.n.s)=false) ?_ aM ?_ ?_ ?_
  ·exact jW
  ·exact ig
  ·rintro k _ _ hk ⟨rfl,rfl,hf⟩
   have hk:k < levels.length:=by simpa using hk
   have hx:levels[k]?=some levels[k]:=by simp [hk]
   have hr:(levels.map fun l=>[strs l])[k]?=some [strs levels[k]]:=by simp [hk]
   have AH:levels[k].length<=1099511627776:=by
    have:∀ l∈levels,l.length<=1099511627776:=by decide
    exact this _ (getElem_mem hk)
   have AA:levels[k].contains t.n.s=true->levels.findIdx? (fun l=>l.contains t.n.s)=some k:=by
    intro hc;rw [List.findIdx?_eq_some_iff_getElem];refine ⟨hk,hc,fun j hj=>?_⟩;rw [List.any_eq_false] at hf;refine hf _ ?_;rw [List.mem_take_iff_getElem];exact ⟨j,by omega,rfl⟩
   generalize levels[k]=x at *;have hh:=jT x t.n.s AH
   cases hb:x.contains t.n.s with
   | true =>
    rw [hb] at hh;rw [AA hb];refine G ?_;refine D [] hh ?_;exact ak
   | false =>
    rw [hb] at hh;refine G ?_;refine D [] hh ?_;exact ⟨rfl,rfl,_,_,Wk.aK av,rfl,rfl,by rw [cq,hx,List.any_append,hf];simp only [Option.toList,List.any_cons,List.any_nil,hb];rfl⟩
  ·rintro _ _ ⟨rfl,rfl,hf⟩;rw [jS (by simp)] at hf
   have hn:levels.findIdx? (fun l=>l.contains t.n.s)=none:=by
    rw [List.findIdx?_eq_none_iff];intro x hx;rw [List.any_eq_false] at hf;simpa using hf x hx
   rw [hn];exact ax
 ·have h6':(t.n.kind != 6)=true:=by simpa using h6
  unfold nK;rw [ab h6];refine G ?_;refine D [] kr ?_;exact ak
end Go.Xg
namespace Go.Xg
open Go.RowKit Go.Xw Go.Proofs Tryz
open Go.Xp (Tok Nd T br one levels Ar Ac eI A4)
open Go.Sp
attribute [local irreducible] GW GL GO YG GC GA ba bc
theorem Tx (n:Int):GF prog 255 [.v (ii n)] [] (.v (ii (n % 4294967296))) []:=by
 refine ai func255 ntmps255 ?_;exact ak
theorem Va (n:Int):GF prog 242 [.v (ii n)] [] (.v (ii (Ac n))) []:=by
 unfold Ac
 have hb:0<=n % 4294967296/\n % 4294967296 < 4294967296:=by omega
 have hp:=Tx n;generalize n % 4294967296=m at *;refine dT func242 ntmps242 ?_
 by_cases h:m > 2147483647
 ·have h':decide ((2147483647:Int) < m)=true:=by simpa using h
  rw [ae h];refine G ?_;refine D [] hp ?_;exact ak
 ·have h':decide ((2147483647:Int) < m)=false:=by simpa using h
  rw [ab h];refine G ?_;refine D [] hp ?_;exact ak
theorem Fp (k:Nat) (h:k<=57):[[GV.v (.int .u8 (k:Int))]]=[UInt8.ofNat k].map fun c=>[GV.v (.int .u8 (c.toNat:Int))]:=by
 have:(UInt8.ofNat k).toNat=k:=by simp;omega
 simp [this]
theorem IY (n:Nat) (hn:n<=1099511627776):GF prog 243 [.v (ii (n:Int))] [] (.v (sv (eI n))) []:=by
 induction n using Nat.strongRecOn with
 | _ n ih =>
 unfold eI;refine dT func243 ntmps243 ?_
 by_cases h:n < 10
 ·have h':decide ((n:Int) < 10)=true:=by simpa using by omega
  have hw:=Fp (48+n) ag;rw [Int.natCast_add] at hw;rw [dif_pos h];refine G ?_;refine b6 ?_;exact ax
 ·have h':decide ((n:Int) < 10)=false:=by simpa using by omega
  rw [dif_neg h];have hc:=ih (n / 10) ag ag;have hl:=A4 (n / 10);have hw:=Fp (48+n % 10) ag;rw [Int.natCast_add] at hw;refine G ?_;refine aJ (.q 0 (.q 1 (aD 3 4 (.f 2 (.a 7 (aD 8 3 .nil)) 7 (.q 8 (.a 2 (.q 9 (.q 10 .nil)))))))) ?_;refine au ?_;refine GO.fork ?_ ?_
  ·refine az [] hc ?_;refine eZ ?_;refine au ?_;exact ax
  ·refine eZ ?_;refine au ?_;refine az [] hc ?_;exact ax
end Go.Xg
namespace Go.Xg
open Go.RowKit Go.Xw Go.Proofs Tryz
open Go.Xp (Tok Nd T br one levels Ar Ac eI A4 E S er aQ wt fp ry ep bK)
open Go.Sp
attribute [local irreducible] GW GL GO YG GC GA ba bc
theorem eJ {nd:Nd} {l l':List T} {k v:Int} {s:ah} (h:er (.mk nd l)=.mk ⟨k,0,v,s,[]⟩ l'):nd.kind=k/\nd.n=v/\nd.s=s/\aQ l=l':=by
 rw [er] at h
 injection h with I F
 injection I with a b c d e
 exact ⟨a,c,d,F⟩
theorem xe {l:List T} {x:T} (h:aQ l=[x]):∃ t,l=[t]/\er t=x:=by
 match l,h with
 | [t],h=>rw [aQ,aQ] at h;injection h with I;exact ⟨t,rfl,I⟩
 | [],h=>rw [aQ] at h;cases h
 | t::u::r,h=>rw [aQ,aQ] at h;injection h with I F;cases F
theorem DD {l:List T} {x y:T} (h:aQ l=[x,y]):∃ t u,l=[t,u]/\er t=x/\er u=y:=by
 match l,h with
 | t::r,h =>
  rw [aQ] at h;injection h with I F
  obtain ⟨u,rfl,h3⟩:=xe F;exact ⟨t,u,rfl,I,h3⟩
 | [],h=>rw [aQ] at h;cases h
theorem ZF {l:List T} {x y z:T} (h:aQ l=[x,y,z]):∃ t u w,l=[t,u,w]/\er t=x/\er u=y/\er w=z:=by
 match l,h with
 | t::r,h =>
  rw [aQ] at h;injection h with I F
  obtain ⟨u,w,rfl,h3,h4⟩:=DD F;exact ⟨t,u,w,rfl,I,h3,h4⟩
 | [],h=>rw [aQ] at h;cases h
theorem RG {a:E} (h:a.ok=true) {t:T} (ht:er t=a.tree):nK t.n.kind t.n.s=(a.lv:Int):=by
 obtain ⟨nd,l⟩:=t
 cases a with
 | bin s a b =>
  obtain ⟨I,_,F,_⟩:=eJ ht;simp only [E.ok,aE] at h;have h9:=(Go.Xp.qA h.1.1).1;simp only [T.n,I,F,nK,ae,E.lv];unfold ep at h9 |-
  cases hf:levels.findIdx? (fun l=>l.contains s) with
  | none=>rw [hf] at h9;exact absurd h9 aM
  | some i=>rfl
 | num n=>obtain ⟨I,_⟩:=eJ ht;simp only [T.n,I,nK];rfl
 | name n=>obtain ⟨I,_⟩:=eJ ht;simp only [T.n,I,nK];rfl
 | at_ s a=>obtain ⟨I,_⟩:=eJ ht;simp only [T.n,I,nK];rfl
 | call s a=>obtain ⟨I,_⟩:=eJ ht;simp only [T.n,I,nK];rfl
 | un s a=>obtain ⟨I,_⟩:=eJ ht;simp only [T.n,I,nK];rfl
theorem rY {a:E} (h:a.ok=true) {t:T} (ht:er t=a.tree):GF prog 225 [.agg (cT t)] [] (.v (ii (a.lv:Int))) []:=by
 have:=LS t;rw [RG h ht] at this;exact this
theorem Ep (n:Int) (h:0<=n/\n<=2147483647):GF prog 226 [.v (ii n)] [] (.v (sv (eI n.toNat))) []:=by
 have hw:=Va n
 have pK:Ac n=n:=by unfold Ac;rw [show n % 4294967296=n by omega,ab ag]
 rw [pK] at hw;have hd:=IY n.toNat ag;rw [Int.toNat_of_nonneg h.1] at hd
 have h':decide (n < 0)=false:=by simpa using h.1
 refine ai func226 ntmps226 ?_;refine D [] hw ?_;refine D [] hd ?_;exact ak
abbrev lim:Nat:=1000000000000
def sq (a:E):Prop:=∀ (t:T) (k:Nat),a.ok=true->er t=a.tree->wt a.tree<=lim->¬ a.lv < k->GF prog 185 [.agg (cT t),.v (ii (k:Int))] [] (.v (sv a.bp)) []
def pB (a:E):Prop:=∀ (t:T) (k:Nat),a.ok=true->er t=a.tree->wt a.tree<=lim->GF prog 185 [.agg (cT t),.v (ii (k:Int))] [] (.v (sv (ry a.lv k a.bp))) []
theorem sq.p {a:E} (C:sq a):pB a:=by
 intro t k ho ht hb;unfold ry
 by_cases h:a.lv < k
 ·rw [ae h]
  have h':decide ((a.lv:Int) < (k:Int))=true:=by simpa using h
  have hl:=(E.len a ho).1;have h0:=C t 0 ho ht hb ag;have Sy:=hb;unfold lim at Sy;generalize a.bp=x at *;refine ai func185 ntmps185 ?_;refine D [] (rY ho ht) ?_;refine D [] h0 ?_;exact ak
 ·rw [ab h];exact C t k ho ht hb h
theorem OR (n:Int):sq (.num n):=by
 intro t k ho ht hb h
 have h':decide (((E.num n).lv:Int) < (k:Int))=false:=by simpa using h
 have hg:=rY ho ht;obtain ⟨⟨kk,aa,vv,ss,ks⟩,l⟩:=t;obtain ⟨I,F,h3,hl⟩:=eJ ht;simp only at I F h3;subst I F h3;simp only [E.ok,aE] at ho;have hn:=Ep vv ⟨lS ho.1,lS ho.2⟩;rw [E.bp];simp only [cT,T.n,T.kids] at hg |-;refine ai func185 ntmps185 ?_;refine D [] hg ?_;refine D [] hn ?_;exact ak
theorem L1 (s:ah):sq (.name s):=by
 intro t k ho ht hb h
 have h':decide (((E.name s).lv:Int) < (k:Int))=false:=by simpa using h
 have hg:=rY ho ht;obtain ⟨⟨kk,aa,vv,ss,ks⟩,l⟩:=t;obtain ⟨I,F,h3,hl⟩:=eJ ht;simp only at I F h3;subst I F h3;rw [E.bp];simp only [cT,T.n,T.kids] at hg |-;refine ai func185 ntmps185 ?_;refine D [] hg ?_;exact ak
theorem QX (s:ah) (a:E) (C:pB a):sq (.at_ s a):=by
 intro t k ho ht hb h
 have h':decide (((E.at_ s a).lv:Int) < (k:Int))=false:=by simpa using h
 have hg:=rY ho ht;obtain ⟨⟨kk,aa,vv,ss,ks⟩,l⟩:=t;obtain ⟨I,F,h3,hl⟩:=eJ ht;simp only at I F h3;subst I F h3;obtain ⟨x,rfl,hx⟩:=xe hl;simp only [E.ok,aE] at ho;rw [E.tree,wt] at hb;simp only [fp,lim] at hb;have hc:=C x 0 ho.2 hx (by unfold lim;omega);unfold ry at hc;rw [ab ag] at hc;have hle:=(E.len a ho.2).1;have hr:(aU [x])[0]?=some (cT x):=cI rfl;rw [E.bp];generalize a.bp=y at *;simp only [cT,T.n,T.kids] at hg |-;refine ai func185 ntmps185 ?_;refine D [] hg ?_;refine aJ (aD 0 8 (.a 8 (aD 9 3 .nil))) ?_;refine au ?_;refine az [] hc ?_;exact ax
theorem QY (s:ah) (a:E) (C:pB a):sq (.un s a):=by
 intro t k ho ht hb h
 have h':decide (((E.un s a).lv:Int) < (k:Int))=false:=by simpa using h
 have hg:=rY ho ht;obtain ⟨⟨kk,aa,vv,ss,ks⟩,l⟩:=t;obtain ⟨I,F,h3,hl⟩:=eJ ht;simp only at I F h3;subst I F h3;obtain ⟨x,rfl,hx⟩:=xe hl;simp only [E.ok,aE] at ho;rw [E.tree,wt] at hb;simp only [fp,lim] at hb;have hc:=C x 9 ho.2 hx (by unfold lim;omega);have hle:=(E.len a ho.2).1;have BH:=Go.Xp.tL a.lv 9 a.bp;have hr:(aU [x])[0]?=some (cT x):=cI rfl;rw [E.bp];generalize ry a.lv 9 a.bp=y at *;simp only [cT,T.n,T.kids] at hg |-;refine ai func185 ntmps185 ?_;refine D [] hg ?_;refine aJ (aD 0 8 (.a 8 (.q 9 (.a 10 (.q 11 (.q 12 .nil)))))) ?_;refine au ?_;refine az [] kr ?_;refine az [] hc ?_;exact ax
theorem OO (s:ah) (a b:E) (Ca:pB a) (Cb:pB b):sq (.bin s a b):=by
 intro t k ho ht hb h
 have h':decide (((E.bin s a b).lv:Int) < (k:Int))=false:=by simpa using h
 have hg:=rY ho ht;obtain ⟨⟨kk,aa,vv,ss,ks⟩,l⟩:=t;obtain ⟨I,F,h3,hl⟩:=eJ ht;simp only at I F h3;subst I F h3;obtain ⟨x,y,rfl,hx,hy⟩:=DD hl;simp only [E.ok,aE] at ho;rw [E.tree,wt] at hb;simp only [fp,lim] at hb;have VR:=Ca x (ep ss) ho.1.2 hx (by unfold lim;omega);have wj:=Cb y (ep ss+1) ho.2 hy (by unfold lim;omega);have J2:=(Go.Xp.qA ho.1.1).1;have hle:=(E.len a ho.1.2).1;have BH:=Go.Xp.tL a.lv (ep ss) a.bp;have Z8:=(E.len b ho.2).1;have aaU:=Go.Xp.tL b.lv (ep ss+1) b.bp;have hr:(aU [x,y])[0]?=some (cT x):=cI rfl;have eE:(aU [x,y])[1]?=some (cT y):=cI rfl;rw [E.bp];simp only [E.lv] at hg h';generalize ry a.lv (ep ss) a.bp=u at *;generalize ry b.lv (ep ss+1) b.bp=w at *;simp only [cT,T.n,T.kids] at hg |-;refine ai func185 ntmps185 ?_;refine D [] hg ?_;refine D [] hg ?_;refine aJ (aD 0 5 (aD 7 3 (aD 12 6 (.a 5 (.q 6 (.q 10 (.q 11 (.a 18 (.q 19 (.q 20 .nil)))))))))) ?_;refine au ?_;refine az [] VR ?_;refine az [] wj ?_;exact ax
end Go.Xg
namespace Go.Xg
open GV (U)
open Go.RowKit Go.Xw Go.Proofs Tryz
open Go.Xp (Tok Nd T br one levels Ar eI E S er aQ wt fp ry ep bK CT xo)
open Go.Sp
attribute [local irreducible] GW GL GO YG GC GA ba bc
def Le (b:Bool) (a:E):Prop:=∀ t,er t=a.tree->GF prog 147 [.agg (cT t),.v (.bool b)] [] (.v (sv (a.out b))) []
theorem Nt:∀ {ts:List T} {es:List E} (h:aQ ts=E.trees es),ts.length=es.length/\∀ (k:Nat) t a,ts[k]?=some t->es[k]?=some a->er t=a.tree
 | [],[],_=>⟨rfl,fun k t a h=>by simp at h⟩
 | [],a::l,h=>by rw [aQ,E.trees] at h;cases h
 | t::r,[],h=>by rw [aQ,E.trees] at h;cases h
 | t::r,a::l,h=>by
  rw [aQ,E.trees] at h
  injection h with I F
  obtain ⟨h3,h4⟩:=Nt F;refine ⟨by simp [h3],fun k t' a' ht ha=>?_⟩
  cases k with
  | zero=>cases ht;cases ha;exact I
  | succ k=>exact h4 k t' a' (by simpa using ht) (by simpa using ha)
theorem Fi (b:Bool) (es:List E) (C:∀ a∈es,Le b a) (ts:List T) (uF:aQ ts=E.trees es) (hb:(bK (es.map (E.out b))).length<=lim) (hn:es.length<=lim) :
  GF prog 227 [.sl 6 (aU ts),.v (.bool b)] [] (.v (sv (bK (es.map (E.out b))))) []:=by
 obtain ⟨hlen,pF⟩:=Nt uF;unfold lim at hb hn;refine ai func227 ntmps227 ?_;refine GW.range (aU ts).length (fun k fr Γ=>∃ y,fr=[U,.v (.bool b),U,U,U,.v (sv y),U,U,.sl 6 (aU ts),.v (ii ((aU ts).length:Int)),.v (ii (k:Nat)),U,U,U,U,U,U,U,U,U,U,U,U,U,U,U]/\Γ=[]/\y=bK ((es.map (E.out b)).take k)) ?_ (by rw [aW];omega) ?_ ?_ ?_
 ·exact ⟨_,_,Wk.aK av,[],rfl,rfl,by simp [bK]⟩
 ·rintro k _ _ ⟨y,rfl,rfl,_⟩;exact dI
 ·rintro k _ _ hk ⟨y,rfl,rfl,hy⟩
  have hk:k < es.length:=by rw [aW,hlen] at hk;exact hk
  have x7:k < ts.length:=by omega
  have hx:es[k]?=some es[k]:=by simp [hk]
  have ht:ts[k]?=some ts[k]:=by simp [x7]
  have he:=pF k _ _ ht hx;have hr:=cI ht;have hc:=C _ (bm hx) _ he;have pH:=xo (es.map (E.out b)) (k+1);have Z1:=xo (es.map (E.out b)) k
  have lL:(es.map (E.out b)).take (k+1)=(es.map (E.out b)).take k++[es[k].out b]:=by
   rw [cq,aV,hx];rfl
  rw [lL] at pH;generalize ts[k]=t at *;generalize es[k]=a at *;generalize a.out b=x at *
  by_cases h0:k=0
  ·subst h0
   have um:decide ((0:Int) < ((0:Nat):Int))=false:=by decide
   have hj:bK ((es.map (E.out b)).take 0++[x])=[]++x:=by simp [bK]
   have SG:bK ((es.map (E.out b)).take 0)=[]:=by simp [bK]
   rw [SG] at hy;subst hy;rw [hj] at pH
   have pH:x.length<=(bK (es.map (E.out b))).length:=by simpa using pH
   refine G ?_;refine D [] hc ?_;exact ⟨rfl,rfl,_,_,(Wk.cut (n:=0) (fi rfl) rfl).trans (Wk.aK av),_,rfl,rfl,by rw [lL,hj]⟩
  ·have um:decide ((0:Int) < (k:Int))=true:=by simpa using by omega
   have cj:(es.map (E.out b)).take k≠[]:=by
    intro h;rw [List.take_eq_nil_iff] at h
    rcases h with h | h
    ·exact h0 h
    ·rw [List.map_eq_nil_iff] at h;subst h;simp at hk
   have hj:=CT cj x;rw [hj] at pH;rw [<-hy] at pH hj Z1;simp only [aZ,length_cons,length_nil] at pH;refine G ?_;refine D [] hc ?_;exact ⟨rfl,rfl,_,_,(Wk.cut (n:=0) (fi rfl) rfl).trans (Wk.aK av),_,rfl,rfl,by rw [lL,hj]⟩
 ·rintro _ _ ⟨y,rfl,rfl,hy⟩;have:(es.map (E.out b)).take (aU ts).length=es.map (E.out b):=jS (by rw [aW,hlen];simp);rw [this] at hy;subst hy;exact ax
theorem pB.out {a:E} (C:pB a) (ho:a.ok=true) (hb:wt a.tree<=lim):Le true a:=by
 intro t ht;have h0:=C t 0 ho ht hb;unfold ry at h0;rw [ab ag] at h0;show GF _ _ _ _ (.v (sv a.bp)) _;refine ai func147 ntmps147 ?_;refine D [] h0 ?_;exact ak
theorem Eh:∀ l:List E,l.length<=fp (E.trees l)
 | []=>aX _
 | a::l=>by
  have:=Eh l;rw [E.trees,fp,length_cons]
  have:1<=wt a.tree:=by cases a <;> (rw [E.tree,wt];omega)
  omega
theorem Ei:∀ {l:List E} {a:E},a∈l->wt a.tree<=fp (E.trees l)
 | [],_,h=>by cases h
 | b::l,a,h=>by
  rw [E.trees,fp]
  rcases ei h with rfl | h
  ·omega
  ·have:=Ei h;omega
theorem DZ:∀ {l:List E} {a:E},E.df l=true->a∈l->a.ok=true
 | [],_,_,h=>by cases h
 | b::l,a,ho,h=>by
  simp only [E.df,aE] at ho
  rcases ei h with rfl | h
  ·exact ho.1
  ·exact DZ ho.2 h
theorem LZ (s:ah) (es:List E) (C:∀ a∈es,pB a):sq (.call s es):=by
 intro t k ho ht hb h
 have h':decide (((E.call s es).lv:Int) < (k:Int))=false:=by simpa using h
 have hg:=rY ho ht;obtain ⟨⟨kk,aa,vv,ss,ks⟩,l⟩:=t;obtain ⟨I,F,h3,hl⟩:=eJ ht;simp only at I F h3;subst I F h3;simp only [E.ok,aE] at ho;rw [E.tree,wt] at hb;have hle:=(E.lens es ho.2).1;have hn:=Eh es
 have Hf:E.dc es=es.map (E.out true):=by rw [E.RM];rfl
 have hj:=Fi true es (fun a ha=>(C a ha).out (DZ ho.2 ha) (by have:=Ei ha;omega)) l hl (by rw [<-Hf];omega) ag;rw [<-Hf] at hj;unfold lim at hb;simp only at hb;rw [E.bp];generalize bK (E.dc es)=y at *;simp only [cT,T.n,T.kids] at hg |-;refine ai func185 ntmps185 ?_;refine D [] hg ?_;refine aJ (aD 0 6 (.a 6 (aD 7 3 .nil))) ?_;refine au ?_;refine az [] hj ?_;exact ax
mutual
theorem wy:∀ a:E,pB a
 | .num n=>(OR n).p
 | .name s=>(L1 s).p
 | .at_ s a=>(QX s a (wy a)).p
 | .call s l=>(LZ s l (Kf l)).p
 | .un s a=>(QY s a (wy a)).p
 | .bin s a b=>(OO s a b (wy a) (wy b)).p
theorem Kf:∀ l:List E,∀ a∈l,pB a
 | []=>fun a h=>by cases h
 | b::l=>fun a h=>by
  rcases ei h with h | h
  ·rw [h];exact wy b
  ·exact Kf l a h
end
def mQ (a:E):Prop:=∀ (t:T),a.ok=true->er t=a.tree->wt a.tree<=lim->GF prog 186 [.agg (cT t)] [] (.v (sv a.full)) []
theorem mQ.out {a:E} (C:mQ a) (ho:a.ok=true) (hb:wt a.tree<=lim):Le false a:=by
 intro t ht;have h0:=C t ho ht hb;show GF _ _ _ _ (.v (sv a.full)) _;refine ai func147 ntmps147 ?_;refine D [] h0 ?_;exact ak
theorem Qt (n:Int):mQ (.num n):=by
 intro t ho ht hb;obtain ⟨⟨kk,aa,vv,ss,ks⟩,l⟩:=t;obtain ⟨I,F,h3,hl⟩:=eJ ht;simp only at I F h3;subst I F h3;simp only [E.ok,aE] at ho;have hn:=Ep vv ⟨lS ho.1,lS ho.2⟩;rw [E.full];simp only [cT,T.n,T.kids];refine ai func186 ntmps186 ?_;refine D [] hn ?_;exact ak
theorem NL (s:ah):mQ (.name s):=by
 intro t ho ht hb;obtain ⟨⟨kk,aa,vv,ss,ks⟩,l⟩:=t;obtain ⟨I,F,h3,hl⟩:=eJ ht;simp only at I F h3;subst I F h3;rw [E.full];simp only [cT,T.n,T.kids];refine ai func186 ntmps186 ?_;exact ak
theorem TW (s:ah) (a:E) (C:mQ a):mQ (.at_ s a):=by
 intro t ho ht hb;obtain ⟨⟨kk,aa,vv,ss,ks⟩,l⟩:=t;obtain ⟨I,F,h3,hl⟩:=eJ ht;simp only at I F h3;subst I F h3;obtain ⟨x,rfl,hx⟩:=xe hl;simp only [E.ok,aE] at ho;rw [E.tree,wt] at hb;simp only [fp,lim] at hb;have hc:=C x ho.2 hx (by unfold lim;omega);have hle:=(E.len a ho.2).2;have hr:(aU [x])[0]?=some (cT x):=cI rfl;rw [E.full];generalize a.full=y at *;simp only [cT,T.n,T.kids] at |-;refine ai func186 ntmps186 ?_;refine aJ (aD 0 8 (.a 8 (aD 9 3 .nil))) ?_;refine au ?_;refine az [] hc ?_;exact ax
theorem NK (s:ah) (es:List E) (C:∀ a∈es,mQ a):mQ (.call s es):=by
 intro t ho ht hb;obtain ⟨⟨kk,aa,vv,ss,ks⟩,l⟩:=t;obtain ⟨I,F,h3,hl⟩:=eJ ht;simp only at I F h3;subst I F h3;simp only [E.ok,aE] at ho;rw [E.tree,wt] at hb;have hle:=(E.lens es ho.2).2;have hn:=Eh es
 have Hf:E.tB es=es.map (E.out false):=by rw [E.NM];rfl
 have hj:=Fi false es (fun a ha=>(C a ha).out (DZ ho.2 ha) (by have:=Ei ha;omega)) l hl (by rw [<-Hf];omega) ag;rw [<-Hf] at hj;unfold lim at hb;simp only at hb;rw [E.full];generalize bK (E.tB es)=y at *;simp only [cT,T.n,T.kids] at |-;refine ai func186 ntmps186 ?_;refine aJ (aD 0 6 (.a 6 (aD 7 3 .nil))) ?_;refine au ?_;refine az [] hj ?_;exact ax
theorem TX (s:ah) (a:E) (C:mQ a):mQ (.un s a):=by
 intro t ho ht hb;obtain ⟨⟨kk,aa,vv,ss,ks⟩,l⟩:=t;obtain ⟨I,F,h3,hl⟩:=eJ ht;simp only at I F h3;subst I F h3;obtain ⟨x,rfl,hx⟩:=xe hl;simp only [E.ok,aE] at ho;rw [E.tree,wt] at hb;simp only [fp,lim] at hb;have hc:=C x ho.2 hx (by unfold lim;omega);have hle:=(E.len a ho.2).2;have hr:(aU [x])[0]?=some (cT x):=cI rfl;rw [E.full];generalize a.full=y at *;simp only [cT,T.n,T.kids] at |-;refine ai func186 ntmps186 ?_;refine aJ (aD 0 8 (.a 8 (aD 9 3 .nil))) ?_;refine au ?_;refine az [] hc ?_;exact ax
theorem Qs (s:ah) (a b:E) (Ca:mQ a) (Cb:mQ b):mQ (.bin s a b):=by
 intro t ho ht hb;obtain ⟨⟨kk,aa,vv,ss,ks⟩,l⟩:=t;obtain ⟨I,F,h3,hl⟩:=eJ ht;simp only at I F h3;subst I F h3;obtain ⟨x,y,rfl,hx,hy⟩:=DD hl;simp only [E.ok,aE] at ho;rw [E.tree,wt] at hb;simp only [fp,lim] at hb;have VR:=Ca x ho.1.2 hx (by unfold lim;omega);have wj:=Cb y ho.2 hy (by unfold lim;omega);have hle:=(E.len a ho.1.2).2;have Z8:=(E.len b ho.2).2;have hr:(aU [x,y])[0]?=some (cT x):=cI rfl;have eE:(aU [x,y])[1]?=some (cT y):=cI rfl;rw [E.full];generalize a.full=u at *;generalize b.full=w at *;simp only [cT,T.n,T.kids] at |-;refine ai func186 ntmps186 ?_;refine aJ (aD 0 4 (aD 7 3 (aD 12 4 (.a 4 (.q 5 (.q 6 (.q 10 (.q 11 (.a 16 (aD 17 3 .nil)))))))))) ?_;refine au ?_;refine az [] VR ?_;refine az [] wj ?_;exact ax
mutual
theorem zJ:∀ a:E,mQ a
 | .num n=>Qt n
 | .name s=>NL s
 | .at_ s a=>TW s a (zJ a)
 | .call s l=>NK s l (NJ l)
 | .un s a=>TX s a (zJ a)
 | .bin s a b=>Qs s a b (zJ a) (zJ b)
theorem NJ:∀ l:List E,∀ a∈l,mQ a
 | []=>fun a h=>by cases h
 | b::l=>fun a h=>by
  rcases ei h with h | h
  ·rw [h];exact zJ b
  ·exact NJ l a h
end
theorem qY (b:Bool) {a:E} (ho:a.ok=true) (hb:wt a.tree<=lim):Le b a:=by
 cases b with
 | true=>exact (wy a).out ho hb
 | false=>exact (zJ a).out ho hb
theorem jM (b:Bool) (a:E) (ho:a.ok=true):(a.out b).length+4<=wt a.tree:=by
 have:=E.len a ho
 cases b with
 | true=>exact this.1
 | false=>exact this.2
end Go.Xg
namespace Go.Xg
open GV (U)
open Go.RowKit Go.Xw Go.Proofs Tryz
open Go.Xp (Tok Nd T br one levels Ar eI E S er aQ wt fp bO fK)
open Go.Sp
attribute [local irreducible] GW GL GO YG GC GA ba bc
theorem KT (x:E->Go.Xp.ah):∀ (l:List S) (acc:Go.Xp.ah),acc.length<=(S.dc x acc l).length
 | [],acc=>by rw [S.dc];omega
 | a::l,acc=>by
  rw [S.dc];have:=KT x l (acc++a.bp x++[32]);simp only [aZ,length_cons,length_nil] at this;omega
def n8 (b:Bool) (s:S):Prop:=∀ t,s.ok=true->er t=s.tree->wt s.tree<=lim->GF prog 111 [.agg (cT t),.v (.bool b)] [] (.v (sv (s.bp (E.out b)))) []
def vR (b:Bool) (l:List S):Prop:=∀ t,S.df l=true->er t=bO l->wt (bO l)<=lim->GF prog 111 [.agg (cT t),.v (.bool b)] [] (.v (sv (fK (E.out b) l))) []
theorem KB:∀ {ts:List T} {es:List S} (h:aQ ts=S.trees es),ts.length=es.length/\∀ (k:Nat) t a,ts[k]?=some t->es[k]?=some a->er t=a.tree
 | [],[],_=>⟨rfl,fun k t a h=>by simp at h⟩
 | [],a::l,h=>by rw [aQ,S.trees] at h;cases h
 | t::r,[],h=>by rw [aQ,S.trees] at h;cases h
 | t::r,a::l,h=>by
  rw [aQ,S.trees] at h
  injection h with I F
  obtain ⟨h3,h4⟩:=KB F;refine ⟨by simp [h3],fun k t' a' ht ha=>?_⟩
  cases k with
  | zero=>cases ht;cases ha;exact I
  | succ k=>exact h4 k t' a' (by simpa using ht) (by simpa using ha)
theorem Ip:∀ {l:List S} {a:S},a∈l->wt a.tree<=fp (S.trees l)
 | [],_,h=>by cases h
 | b::l,a,h=>by
  rw [S.trees,fp]
  rcases ei h with rfl | h
  ·omega
  ·have:=Ip h;omega
theorem Io:∀ l:List S,l.length<=fp (S.trees l)
 | []=>aX _
 | a::l=>by
  have:=Io l;rw [S.trees,fp,length_cons]
  have:1<=wt a.tree:=by cases a <;> (rw [S.tree,wt];omega)
  omega
theorem Ia:∀ {l:List S} {a:S},S.df l=true->a∈l->a.ok=true
 | [],_,_,h=>by cases h
 | b::l,a,ho,h=>by
  simp only [S.df,aE] at ho
  rcases ei h with rfl | h
  ·exact ho.1
  ·exact Ia ho.2 h
theorem PV (b:Bool) (s:Go.Xp.ah) (a:E):n8 b (.var s a):=by
 intro t ho ht hb;obtain ⟨⟨kk,aa,vv,ss,ks⟩,l⟩:=t;obtain ⟨I,F,h3,hl⟩:=eJ ht;simp only at I F h3;subst I F h3;obtain ⟨x0,rfl,nX⟩:=xe hl;simp only [S.ok,aE] at ho;rw [S.tree,wt] at hb;simp only [fp,lim] at hb;have ou:=qY b (a:=a) ho.2 (by unfold lim;omega) x0 nX;have vl:=jM b a ho.2;have sG:(aU [x0])[0]?=some (cT x0):=cI rfl;rw [S.bp];generalize a.out b=y0 at *;simp only [cT,T.n,T.kids];refine ai func111 ntmps111 ?_;refine aJ (aD 0 10 (.a 10 (aD 11 3 .nil))) ?_;refine au ?_;refine az [] ou ?_;exact ax
theorem PU (b:Bool) (s:Go.Xp.ah) (a:E):n8 b (.set s a):=by
 intro t ho ht hb;obtain ⟨⟨kk,aa,vv,ss,ks⟩,l⟩:=t;obtain ⟨I,F,h3,hl⟩:=eJ ht;simp only at I F h3;subst I F h3;obtain ⟨x0,rfl,nX⟩:=xe hl;simp only [S.ok,aE] at ho;rw [S.tree,wt] at hb;simp only [fp,lim] at hb;have ou:=qY b (a:=a) ho.2 (by unfold lim;omega) x0 nX;have vl:=jM b a ho.2;have sG:(aU [x0])[0]?=some (cT x0):=cI rfl;rw [S.bp];generalize a.out b=y0 at *;simp only [cT,T.n,T.kids];refine ai func111 ntmps111 ?_;refine aJ (aD 0 9 (.a 9 (aD 10 3 .nil))) ?_;refine au ?_;refine az [] ou ?_;exact ax
theorem PR (b:Bool) (s:Go.Xp.ah) (a:E) (c:E):n8 b (.put s a c):=by
 intro t ho ht hb;obtain ⟨⟨kk,aa,vv,ss,ks⟩,l⟩:=t;obtain ⟨I,F,h3,hl⟩:=eJ ht;simp only at I F h3;subst I F h3;obtain ⟨x0,x1,rfl,nX,pf⟩:=DD hl;simp only [S.ok,aE] at ho;rw [S.tree,wt] at hb;simp only [fp,lim] at hb;have ou:=qY b (a:=a) ho.2.1 (by unfold lim;omega) x0 nX;have vl:=jM b a ho.2.1;have sG:(aU [x0,x1])[0]?=some (cT x0):=cI rfl;have uq:=qY b (a:=c) ho.2.2 (by unfold lim;omega) x1 pf;have gX:=jM b c ho.2.2;have lg:(aU [x0,x1])[1]?=some (cT x1):=cI rfl;rw [S.bp];generalize a.out b=y0 at *;generalize c.out b=y1 at *;simp only [cT,T.n,T.kids];refine ai func111 ntmps111 ?_;refine aJ (aD 0 9 (aD 12 5 (.a 9 (.q 10 (.q 11 (.a 17 (aD 18 3 .nil))))))) ?_;refine au ?_;refine az [] ou ?_;refine az [] uq ?_;exact ax
theorem PO (b:Bool) (c:E) (p:List S) (Cp:vR b p):n8 b (.if1 c p):=by
 intro t ho ht hb;obtain ⟨⟨kk,aa,vv,ss,ks⟩,l⟩:=t;obtain ⟨I,F,h3,hl⟩:=eJ ht;simp only at I F h3;subst I F h3;obtain ⟨x0,x1,rfl,nX,pf⟩:=DD hl;simp only [S.ok,aE] at ho;rw [S.tree,wt] at hb;simp only [fp,lim] at hb;have ou:=qY b (a:=c) ho.1 (by unfold lim;omega) x0 nX;have vl:=jM b c ho.1;have sG:(aU [x0,x1])[0]?=some (cT x0):=cI rfl;have uq:=Cp x1 ho.2 pf (by unfold lim bO;omega);have gX:=Go.Xp.tK (E.out b) (jM b) ho.2;rw [bO] at gX;have lg:(aU [x0,x1])[1]?=some (cT x1):=cI rfl;rw [S.bp];generalize c.out b=y0 at *
 change GF _ _ _ _ (.v (sv _)) _ at uq
 unfold fK at uq gX;generalize S.dc (E.out b) [123,32] p++[125]=y1 at *;simp only [cT,T.n,T.kids];refine ai func111 ntmps111 ?_;refine aJ (aD 0 5 (aD 8 5 (.a 5 (.q 6 (.q 7 (.a 13 (.q 14 (.q 15 .nil)))))))) ?_;refine au ?_;refine az [] ou ?_;refine az [] uq ?_;exact ax
theorem PQ (b:Bool) (c:E) (p:List S) (q:List S) (Cp:vR b p) (Cq:vR b q):n8 b (.if2 c p q):=by
 intro t ho ht hb;obtain ⟨⟨kk,aa,vv,ss,ks⟩,l⟩:=t;obtain ⟨I,F,h3,hl⟩:=eJ ht;simp only at I F h3;subst I F h3;obtain ⟨x0,x1,x2,rfl,nX,pf,J7⟩:=ZF hl;simp only [S.ok,aE] at ho;rw [S.tree,wt] at hb;simp only [fp,lim] at hb;have ou:=qY b (a:=c) ho.1 (by unfold lim;omega) x0 nX;have vl:=jM b c ho.1;have sG:(aU [x0,x1,x2])[0]?=some (cT x0):=cI rfl;have uq:=Cp x1 ho.2.1 pf (by unfold lim bO;omega);have gX:=Go.Xp.tK (E.out b) (jM b) ho.2.1;rw [bO] at gX;have lg:(aU [x0,x1,x2])[1]?=some (cT x1):=cI rfl;have kB:=Cq x2 ho.2.2 J7 (by unfold lim bO;omega);have kE:=Go.Xp.tK (E.out b) (jM b) ho.2.2;rw [bO] at kE;have eE:(aU [x0,x1,x2])[2]?=some (cT x2):=cI rfl;rw [S.bp];generalize c.out b=y0 at *
 change GF _ _ _ _ (.v (sv _)) _ at uq
 unfold fK at uq gX;generalize S.dc (E.out b) [123,32] p++[125]=y1 at *
 change GF _ _ _ _ (.v (sv _)) _ at kB
 unfold fK at kB kE;generalize S.dc (E.out b) [123,32] q++[125]=y2 at *;simp only [cT,T.n,T.kids];refine ai func111 ntmps111 ?_;refine aJ (aD 0 5 (aD 8 5 (.a 5 (.q 6 (.q 7 (.a 13 (.q 14 (.q 15 .nil)))))))) ?_;refine au ?_;refine az [] ou ?_;refine az [] uq ?_;refine G ?_;refine D [] kB ?_;exact ak
theorem Ji (b:Bool) (c:E) (p:List S) (Cp:vR b p):n8 b (.while_ c p):=by
 intro t ho ht hb;obtain ⟨⟨kk,aa,vv,ss,ks⟩,l⟩:=t;obtain ⟨I,F,h3,hl⟩:=eJ ht;simp only at I F h3;subst I F h3;obtain ⟨x0,x1,rfl,nX,pf⟩:=DD hl;simp only [S.ok,aE] at ho;rw [S.tree,wt] at hb;simp only [fp,lim] at hb;have ou:=qY b (a:=c) ho.1 (by unfold lim;omega) x0 nX;have vl:=jM b c ho.1;have sG:(aU [x0,x1])[0]?=some (cT x0):=cI rfl;have uq:=Cp x1 ho.2 pf (by unfold lim bO;omega);have gX:=Go.Xp.tK (E.out b) (jM b) ho.2;rw [bO] at gX;have lg:(aU [x0,x1])[1]?=some (cT x1):=cI rfl;rw [S.bp];generalize c.out b=y0 at *
 change GF _ _ _ _ (.v (sv _)) _ at uq
 unfold fK at uq gX;generalize S.dc (E.out b) [123,32] p++[125]=y1 at *;simp only [cT,T.n,T.kids];refine ai func111 ntmps111 ?_;refine aJ (aD 0 5 (aD 8 5 (.a 5 (.q 6 (.q 7 (.a 13 (.q 14 (.q 15 .nil)))))))) ?_;refine au ?_;refine az [] ou ?_;refine az [] uq ?_;exact ax
theorem PT (b:Bool) (a:E):n8 b (.ret a):=by
 intro t ho ht hb;obtain ⟨⟨kk,aa,vv,ss,ks⟩,l⟩:=t;obtain ⟨I,F,h3,hl⟩:=eJ ht;simp only at I F h3;subst I F h3;obtain ⟨x0,rfl,nX⟩:=xe hl;simp only [S.ok] at ho;rw [S.tree,wt] at hb;simp only [fp,lim] at hb;have ou:=qY b (a:=a) ho (by unfold lim;omega) x0 nX;have vl:=jM b a ho;have sG:(aU [x0])[0]?=some (cT x0):=cI rfl;rw [S.bp];generalize a.out b=y0 at *;simp only [cT,T.n,T.kids];refine ai func111 ntmps111 ?_;refine D [] ou ?_;exact ak
theorem RY (b:Bool) (a:E):n8 b (.do_ a):=by
 intro t ho ht hb;obtain ⟨⟨kk,aa,vv,ss,ks⟩,l⟩:=t;obtain ⟨I,F,h3,hl⟩:=eJ ht;simp only at I F h3;subst I F h3;obtain ⟨x0,rfl,nX⟩:=xe hl;simp only [S.ok] at ho;rw [S.tree,wt] at hb;simp only [fp,lim] at hb;have ou:=qY b (a:=a) ho (by unfold lim;omega) x0 nX;have vl:=jM b a ho;have sG:(aU [x0])[0]?=some (cT x0):=cI rfl;rw [S.bp];generalize a.out b=y0 at *;simp only [cT,T.n,T.kids];refine ai func111 ntmps111 ?_;refine D [] ou ?_;exact ak
theorem sS (b:Bool) (es:List S) (C:∀ a∈es,n8 b a):vR b es:=by
 intro t ho ht hb;obtain ⟨⟨kk,aa,vv,ss,ks⟩,l⟩:=t;obtain ⟨I,F,h3,hl⟩:=eJ ht;simp only at I F h3;subst I F h3;obtain ⟨hlen,pF⟩:=KB hl;have nV:=Go.Xp.tK (E.out b) (jM b) ho;rw [bO,wt] at hb;rw [bO,wt] at nV;have hn:=Io es;unfold fK at nV |-;unfold lim at hb;simp only [aZ,length_cons,length_nil] at hb nV;simp only [cT,T.n,T.kids];refine ai func111 ntmps111 ?_;refine GW.range (aU l).length (fun k fr Γ=>∃ y,fr=[U,.v (.bool b),.loc 0 0,U,U,U,.v (sv y),U,U,U,U,U,U,U,U,U,U,U,U,U,U,U,U,U,U,U,U,U,U,U,U,U,U,U,U,U,U,U,U,U,U,U,U,U,U,U,U,U,U,U,U,U,U,U,U,U,U,U,U,U,U,U,U,U,U,U,U,U,U,U,U,U,U,U,U,U,U,U,U,U,U,U,U,U,U,U,U,U,U,U,U,U,U,U,U,U,U,U,U,U,U,U,U,U,U,U,U,U,U,U,U,U,U,U,U,U,U,U,U,U,U,U,U,U,U,U,U,U,U,U,U,.sl 6 (aU l),.v (ii ((aU l).length:Int)),.v (ii (k:Nat)),U,U,U,U,U,U,U,U,U,U,U,U]/\Γ=[.box 75 [.v (ii 14),.v (ii aa),.v (ii 0),.v (sv []),ints ks,.sl 6 (aU l)]]/\S.dc (E.out b) y (es.drop k)=S.dc (E.out b) [123,32] es) ?_ (by rw [aW];omega) ?_ ?_ ?_
 ·exact ⟨_,_,Wk.aK av,_,rfl,rfl,rfl⟩
 ·rintro k _ _ ⟨y,rfl,rfl,_⟩;exact dI
 ·rintro k _ _ hk ⟨y,rfl,rfl,hy⟩
  have hk:k < es.length:=by rw [aW,hlen] at hk;exact hk
  have x7:k < l.length:=by omega
  have hx:es[k]?=some es[k]:=by simp [hk]
  have lL:l[k]?=some l[k]:=by simp [x7]
  have hr:=cI lL;rw [nl hk,S.dc] at hy;have hm:=bm hx;have hc:=C _ hm _ (Ia ho hm) (pF k _ _ lL hx) (by have:=Ip hm;unfold lim;omega);generalize l[k]=t at *;generalize hgx:es[k].bp (E.out b)=x at *;have ko:=KT (E.out b) (es.drop (k+1)) (y++x++[32]);rw [hy] at ko;simp only [aZ,length_cons,length_nil] at ko;refine G ?_;refine D [] hc ?_;exact ⟨rfl,rfl,_,_,(Wk.cut (n:=1) (fi rfl) rfl).trans (Wk.aK av),_,rfl,rfl,hy⟩
 ·rintro _ _ ⟨y,rfl,rfl,hy⟩;rw [List.drop_of_length_le (by rw [aW,hlen];exact aH _),S.dc] at hy;subst hy;exact ax
mutual
theorem Xo (b:Bool):∀ s:S,n8 b s
 | .set s a=>PU b s a
 | .put s a c=>PR b s a c
 | .if1 c p=>PO b c p (sS b p (tW b p))
 | .if2 c p q=>PQ b c p q (sS b p (tW b p)) (sS b q (tW b q))
 | .while_ c p=>Ji b c p (sS b p (tW b p))
 | .ret a=>PT b a
 | .do_ a=>RY b a
 | .var s a=>PV b s a
theorem tW (b:Bool):∀ l:List S,∀ a∈l,n8 b a
 | []=>fun a h=>by cases h
 | c::l=>fun a h=>by
  rcases ei h with h | h
  ·rw [h];exact Xo b c
  ·exact tW b l a h
end
theorem Xn (b:Bool) (l:List S):vR b l:=sS b l (tW b l)
end Go.Xg
namespace Go.Xg
open GV (U)
open Go.RowKit Go.Xw Go.Proofs Tryz
open Go.Xp (Tok Nd T br one levels Ar eI E S er aQ wt fp bO fK eW)
open Go.Sp
attribute [local irreducible] GW GL GO YG GC GA ba bc
theorem OG (p:Src) (hp:De p) (ls:List (List S)) (hb:F2 p ls):GF prog 88 [.agg (ao p)] [] (.v (.bool (ls.all fun l=>eW l 1))) []:=by
 refine ai func88 ntmps88 ?_;refine GW.range (p.fns.map ay).length (fun k fr Γ=>fr=[U,.loc 0 0,U,U,U,U,U,U,.sl 3 (p.fns.map ay),.v (ii ((p.fns.map ay).length:Int)),.v (ii (k:Nat)),U,U,U,U,U,U,U,U,U,U,U,U,U,U,U,U,U,U,U,U,U,U,U,U,U,U,U,U,U,U,U,U,U,U]/\Γ=[.box 34 (ao p)]/\((ls.take k).all fun l=>eW l 1)=true) ?_ (by simpa using by have:=hp.fns.1;omega) ?_ ?_ ?_
 ·exact jW
 ·exact ig
 ·rintro k _ _ hk ⟨rfl,rfl,hf⟩
  have hk:k < p.fns.length:=by simpa using hk
  have eS:k < ls.length:=by rw [hb.len];exact hk
  have hx:p.fns[k]?=some p.fns[k]:=by simp [hk]
  have AH:ls[k]?=some ls[k]:=by simp [eS]
  have hr:=C8 hx;obtain ⟨h0,ho,hw,t,qU,her⟩:=hb.at_ k _ _ hx AH;have hs:=Dg p (fun n hn=>(hp.nodes.2 n hn).2) _ _ _ qU;rw [Int.toNat_of_nonneg h0] at hs;have Hu:=Xn true ls[k] t ho her (by unfold lim;omega);obtain ⟨ts,t2,q,f,I,F,h3,h4,h5,h6,h7⟩:=TB ho hw;have lL:=OH _ ts ag I;have hmp:RS.ok ⟨ts,0,(fK E.bp ls[k]).length,0,0⟩:=⟨aX _,by simp only;omega⟩;have eA:=(sds f).block 1 _ t2 q hmp ag h5
  have lM:(E.out true)=E.bp:=by funext a;rfl
  rw [lM] at Hu;generalize fK E.bp ls[k]=tx at *;generalize vJ:eW ls[k] 1=fit at *;generalize p.fns[k]=x at *
  rcases h7 with ⟨h7,h8,rfl⟩ | ⟨h7,rfl⟩
  ·have uq:(q.code != 0)=false:=by simpa using h7
   have kB:((q.i:Int) != ((q.l.map dv).length:Int))=false:=by rw [bS,h6];simp [h8]
   refine G ?_;refine D [] hs ?_;refine D [] Hu ?_;refine D [] lL ?_;refine D [2] eA ?_;refine aJ (aD 0 17 .nil) ?_;refine bj ?_;exact ⟨rfl,rfl,_,_,(Wk.cut (n:=1) (fi rfl) rfl).trans (Wk.aK av),rfl,rfl,ue AH hf vJ⟩
  ·have uq:(q.code != 0)=true:=by simpa using h7
   have aY:(ls.all fun l=>eW l 1)=false:=vS AH vJ;rw [aY];refine G ?_;refine D [] hs ?_;refine D [] Hu ?_;refine D [] lL ?_;refine D [2] eA ?_;refine aJ (aD 0 17 .nil) ?_;refine au ?_;exact ax
 ·rintro _ _ ⟨rfl,rfl,hf⟩;rw [jS (by rw [bS,hb.len];exact aH _)] at hf;rw [hf];exact ax
theorem MD (p:Src) (hp:De p) (h:oX p=some false):GF prog 73 [.agg (ao p)] [] (.v (.bool false)) []:=by
 have hs:=CV p hp false h;refine ai func73 ntmps73 ?_;refine D [] hs ?_;exact ak
theorem MG (p:Src) (hp:De p) (h:oX p=some true) (ls:List (List S)) (hb:F2 p ls):GF prog 73 [.agg (ao p)] [] (.v (.bool (ls.all fun l=>eW l 1))) []:=by
 have hs:=CV p hp true h;have hf:=OG p hp ls hb;generalize (ls.all fun l=>eW l 1)=b at *;refine ai func73 ntmps73 ?_;refine D [] hs ?_;refine D [] hf ?_;exact ak
end Go.Xg
namespace Go.Xg
open Go.RowKit Go.Xw Go.Proofs Tryz
open Go.Xp (Tok Nd T levels Ar E S er wt bO fK eW)
open Go.Sp Go.Im
attribute [local irreducible] GW GL GO YG GC GA ba bc
theorem UM {p:Src} (hw:dk p<=1048576):De p:=by
 obtain ⟨⟨a1,a2⟩,⟨b1,b2⟩,⟨c1,c2⟩,⟨d1,d2⟩⟩:=dN p;exact ⟨⟨by omega,fun s hs=>by have:=a2 s hs;omega⟩,⟨by omega,fun s hs=>by have:=b2 s hs;omega⟩,⟨by omega,fun f hf=>by obtain ⟨e1,e2,e3⟩:=c2 f hf;exact ⟨by omega,by omega,fun s hs=>by have:=e3 s hs;omega⟩⟩,⟨by omega,fun n hn=>by obtain ⟨e1,e2⟩:=d2 n hn;exact ⟨by omega,by omega⟩⟩⟩
theorem ME (p:Src) (hw:dk p<=1048576):GF prog 73 [.agg (ao p)] [] (.v (.bool (fI p))) []:=by
 have jK:=UM hw;obtain ⟨b,hb⟩:=Mp p
 cases b with
 | false=>rw [ZJ hb];exact MD p jK hb
 | true =>
  obtain ⟨l,hl⟩:=UO hb;obtain ⟨ls,hf⟩:=hl.Lu;rw [ZK hl hf];exact MG p jK hb ls (MY hl hf hw)
end Go.Xg
namespace Go.Xg
open GV (U)
open Go.RowKit Go.Xw Go.Proofs Tryz
open Go.Xp (Tok Nd T)
open Go.Sp (Src)
open Go.Im (pP rp tr jE cY fo qW)
attribute [local irreducible] GW GL GO YG GC GA ba bc
mutual
def tT:T->GV
 | .mk n l=>.box [.v (ii n.kind),.v (ii n.at_),.v (ii n.n),.v (sv n.s),ints n.kids,.sl 1 (cv l)] 0
def cv:List T->List (List GV)
 | []=>[]
 | t::r=>[tT t]::cv r
end
abbrev uT (t:T):GV:=.box [.v (ii t.n.kind),.v (ii t.n.at_),.v (ii t.n.n),.v (sv t.n.s),ints t.n.kids,.sl 1 (cv t.kids)] 0
theorem YD (t:T):tT t=uT t:=by cases t;rw [tT];rfl
theorem lr (l:List T):cv l=l.map fun t=>[uT t]:=by
 induction l with
 | nil=>rfl
 | cons t l ih=>rw [cv,ih,YD];rfl
theorem rX (l:List T):(cv l).length=l.length:=by rw [lr];simp
theorem KO (l:List T) (t:T):cv (l++[t])=cv l++[[uT t]]:=by rw [lr,lr];simp
theorem wK {l:List T} {i:Nat} {t:T} (h:l[i]?=some t):(cv l)[i]?=some [uT t]:=by rw [lr,aV,h];rfl
def trG:Option (T × Nat)->GV
 | none=>.tup [U,U,.v (.bool false)]
 | some (t,e)=>.tup [uT t,.v (ii (e:Nat)),.v (.bool true)]
theorem RL (nodes:List Nd) (hl:nodes.length<=1099511627776) (hk:∀ n∈nodes,n.kids.length<=1099511627776):∀ (f a:Nat),nodes.length - a+1<=f->a<=1099511627776 ->
  GF prog 156 [.sl 5 (nodes.map aB),.v (ii (a:Nat))] [] (trG (pP nodes f a)) []:=by
 intro f
 induction f with
 | zero=>intro a h;omega
 | succ f ih =>
 intro a hf ha;rw [pP]
 cases hn:nodes[a]? with
 | none =>
  have ko:nodes.length<=a:=py hn
  have hd:decide (((nodes.map aB).length:Int)<=(a:Int))=true:=by simpa using ko
  refine ai func156 ntmps156 ?_;refine r7 ?_;exact ⟨_,jR,rfl,rfl⟩
 | some n =>
  have ar:=(bh hn).1
  have hd:decide (((nodes.map aB).length:Int)<=(a:Int))=false:=by simpa using ar
  have hr:(nodes.map aB)[a]?=some (aB n):=by rw [aV,hn];rfl
  have sF:=hk n (bm hn);simp only;generalize hR:rp (pP nodes f) n.kids (a+1) []=R;refine ai func156 ntmps156 ?_;refine GW.wk (Wk.L7 (i:=0) (o:=5) 138 1 rfl rfl) ?_
  refine GW.range (n.kids.map fun i=>[GV.v (ii i)]).length (fun k fr Γ=>∃ next acc m rows,fr=[.sl 5 (nodes.map aB),.v (ii (a:Nat)),U,U,U,U,U,.loc 0 0,.v (ii (next:Nat)),U,U,U,U,U,U,U,U,U,U,U,U,U,U,U,U,U,U,U,U,U,ints n.kids,.v (ii ((n.kids.map fun i=>[GV.v (ii i)]).length:Int)),.v (ii (k:Nat)),U,U,U,U,U,U,U,U,U,U,U,U,U,U,U,U,U,U,U,U,U,U,U,U,U,U,U,U,U,U,U,U,U,U,U] /\
   Γ=[.box 178 [.v (ii n.kind),.v (ii n.at_),.v (ii n.n),.v (sv n.s),ints n.kids,.vec 1 m],.vec 138 1 0 rows]/\rows.length=m/\rows=cv acc/\m=k/\a+1<=next/\next<=nodes.length/\rp (pP nodes f) (n.kids.drop k) next acc=R) ?_ (by simpa using sF) ?_ ?_ ?_
  ·exact ⟨_,_,Wk.aK av,a+1,[],0,[],rfl,rfl,rfl,rfl,rfl,aH _,ar,hR⟩
  ·rintro k _ _ ⟨next,acc,m,rows,rfl,rfl,_⟩;exact dI
  ·rintro k _ _ eS ⟨next,acc,m,rows,rfl,rfl,hm,bG,uz,J3,tf,h⟩
   have eS:k < n.kids.length:=by simpa using eS
   have de:n.kids[k]?=some n.kids[k]:=by simp [eS]
   have ux:(n.kids.map fun i=>[GV.v (ii i)])[k]?=some [.v (ii n.kids[k])]:=by rw [aV,de];rfl
   rw [nl eS,rp] at h;generalize n.kids[k]=z at *
   by_cases hz:z=(next:Int)
   ·rw [ae hz] at h;subst hz
    have Zi:((next:Int) != (next:Int))=false:=by simp
    have EY:=ih next ag ag
    cases hq:pP nodes f next with
    | none =>
     rw [hq] at h EY;subst h;refine G ?_;refine D [] EY ?_;refine r7 ?_;exact ⟨_,jR,rfl,rfl⟩
    | some x =>
     obtain ⟨t,e⟩:=x;rw [hq] at h EY;simp only at h
     obtain ⟨s1,s2,_,_⟩:=Go.Im.B7 f next t e hq
     refine G ?_;refine D [] EY ?_;refine fG ?_;refine G ?_;exact ⟨rfl,rfl,_,_,Wk.aK av,e,acc++[t],_,_,rfl,rfl,by simp [hm],by rw [KO,bG],by omega,by omega,s2,h⟩
   ·rw [ab hz] at h;subst h
    have Zi:(z != (next:Int))=true:=by simpa using hz
    refine G ?_;refine r7 ?_;exact ⟨_,jR,rfl,rfl⟩
  ·rintro _ _ ⟨next,acc,m,rows,rfl,rfl,hm,bG,uz,J3,tf,h⟩;rw [show n.kids.drop (n.kids.map fun i=>[GV.v (ii i)]).length=[] by simp,rp] at h;subst h;simp only;subst bG;refine be ?_;refine GW.wk (Wk.zY (i:=0) (o:=5) (j:=1) rfl rfl rfl rfl hm) ?_
   by_cases h0:n.at_ < 0
   ·rw [ae h0]
    have um:decide ((0:Int)<=n.at_)=false:=by simpa using h0
    refine G ?_;refine aJ (aD 0 11 .nil) ?_;refine bj ?_;rw [um];refine GW.wk (Wk.freeze (i:=0) rfl rfl rfl (aH _)) ?_;refine r7 ?_;exact ⟨_,jR,rfl,rfl⟩
   ·rw [ab h0]
    have um:decide ((0:Int)<=n.at_)=true:=by simpa using h0
    refine G ?_;refine aJ (aD 0 11 .nil) ?_;refine bj ?_;rw [um];refine GW.wk (Wk.freeze (i:=0) rfl rfl rfl (aH _)) ?_;refine KU ?_;exact ⟨rfl,rfl⟩
def Dx (nodes:List Nd):Option (List T × Nat)->GV
 | none=>.tup [U,.v (.bool false)]
 | some (l,e)=>.tup [.sl 1 (cv l),.v (.bool ((e:Int)==(nodes.length:Int)))]
theorem w8 (p:Src) (hl:p.nodes.length<=1099511627776) (hk:∀ n∈p.nodes,n.kids.length<=1099511627776) (hf:p.fns.length<=1099511627776) :
  GF prog 114 [.agg (ao p)] [] (Dx p.nodes (jE p.nodes p.fns 0 [])) []:=by
 generalize hR:jE p.nodes p.fns 0 []=R;refine ai func114 ntmps114 ?_;refine GW.wk (Wk.DY (t:=4) (a:=none) (c:=0) 138 1 rfl) ?_
 refine GW.range (p.fns.map ay).length (fun k fr Γ=>∃ next acc m rows,fr=[U,.loc 0 0,U,U,.vec 1 m,.v (ii (next:Nat)),U,U,U,U,U,U,.sl 3 (p.fns.map ay),.v (ii ((p.fns.map ay).length:Int)),.v (ii (k:Nat)),U,U,U,U,U,U,U,U,U,U,U,U,U,U,U,U,U,U,U,U,U,U,U,U,U,U,U,U,U,U,U] /\
  Γ=[.box 34 (ao p),.vec 138 1 0 rows]/\rows.length=m/\rows=cv acc/\m=k/\next<=p.nodes.length/\jE p.nodes (p.fns.drop k) next acc=R) ?_ (by simpa using hf) ?_ ?_ ?_
 ·exact ⟨_,_,Wk.aK av,0,[],0,[],rfl,rfl,rfl,rfl,rfl,aX _,hR⟩
 ·rintro k _ _ ⟨next,acc,m,rows,rfl,rfl,_⟩;exact dI
 ·rintro k _ _ eS ⟨next,acc,m,rows,rfl,rfl,hm,bG,uz,tf,h⟩
  have eS:k < p.fns.length:=by simpa using eS
  have de:p.fns[k]?=some p.fns[k]:=by simp [eS]
  have ux:(p.fns.map ay)[k]?=some (ay p.fns[k]):=by rw [aV,de];rfl
  rw [nl eS,jE] at h;generalize p.fns[k]=fn at *
  have Og:=RL p.nodes hl hk (p.nodes.length+1) next ag ag
  unfold tr at h
  cases hq:pP p.nodes (p.nodes.length+1) next with
  | none =>
   rw [hq] at h Og;subst h;refine G ?_;refine D [] Og ?_;refine Iv ?_;exact ⟨_,jR,rfl,rfl⟩
  | some x =>
   obtain ⟨t,e⟩:=x;rw [hq] at h Og;simp only at h
   obtain ⟨s1,s2,_,_⟩:=Go.Im.B7 _ next t e hq
   by_cases hb:fn.body=(next:Int)
   ·rw [ae hb] at h
    have bo:(fn.body != (next:Int))=false:=by simpa using hb
    refine G ?_;refine D [] Og ?_;refine fG ?_;refine G ?_;exact ⟨rfl,rfl,_,_,(Wk.cut (n:=2) (aX _) rfl).trans (Wk.aK av),e,acc++[t],_,_,rfl,rfl,by simp [hm],by rw [KO,bG],by omega,s2,h⟩
   ·rw [ab hb] at h;subst h
    have bo:(fn.body != (next:Int))=true:=by simpa using hb
    refine G ?_;refine D [] Og ?_;refine Iv ?_;exact ⟨_,jR,rfl,rfl⟩
 ·rintro _ _ ⟨next,acc,m,rows,rfl,rfl,hm,bG,uz,tf,h⟩;rw [show p.fns.drop (p.fns.map ay).length=[] by simp,jE] at h;subst h;subst bG;refine be ?_;refine GW.wk (Wk.ki (t:=4) rfl rfl rfl hm) ?_
  have V4:p.nodes.length=(p.nodes.map aB).length:=by simp
  unfold Dx;rw [V4];refine G ?_;refine aJ (aD 0 8 .nil) ?_;refine au ?_;exact r6
end Go.Xg
namespace Go.Xg
open GV (U)
open Go.RowKit Go.Xw Go.Proofs Tryz
open Go.Xp (Tok Nd T br one levels iv eo eM dL dy)
open Go.Sp
attribute [local irreducible] GW GL GO YG GC GA ba bc
structure PX where
 a:Value
 b:Value
 c:Value
 d:Value
 e:Value
abbrev bR (p:RS) (x:PX):Ob:=.box 196 [jr p.l,.v (ii p.i),.v (ii p.e),.v (ii p.code),.v (ii p.at_),.v x.a,.v x.b,.v x.c,.v x.d,.v x.e]
theorem so (p:RS) (k:Nat) (x:PX) (hp:p.ok) (hk:k<=1):GF prog 215 [.loc 0 0,.v (ii (k:Nat))] [bR p x] (.agg (dv (Go.Im.tok p k))) [bR p x]:=by
 obtain ⟨lH,ed⟩:=hp;unfold Go.Im.tok
 cases ht:p.l[p.i+k]? with
 | some t =>
  have hr:=lq ht;have ar:p.i+k < p.l.length:=(bh ht).1
  have hd:decide (((p.l.map dv).length:Int)<=((p.i+k:Nat):Int))=false:=by simpa using by omega
  refine ai func215 ntmps215 ?_;refine aJ (aD 0 12 .nil) ?_;refine bj ?_;refine aJ (aD 0 12 (.a 12 .nil)) ?_;refine au ?_;exact qn
 | none =>
  have ar:p.l.length<=p.i+k:=py ht
  have hd:decide (((p.l.map dv).length:Int)<=((p.i+k:Nat):Int))=true:=by simpa using by omega
  refine ai func215 ntmps215 ?_;refine aJ (aD 0 12 .nil) ?_;refine au ?_;exact qn
theorem GM (p:RS) (c a:Int) (x:PX):GF prog 238 [.loc 0 0,.v (ii c),.v (ii a)] [bR p x] (.tup []) [bR (p.fail c a) x]:=by
 unfold RS.fail
 by_cases h:p.code=0
 ·have h':(p.code==0)=true:=by simpa using h
  rw [ae h];refine ai func238 ntmps238 ?_;exact gL
 ·have h':(p.code==0)=false:=by simpa using h
  rw [ab h];refine ai func238 ntmps238 ?_;exact gL
theorem Ab (p:RS) (x:PX) (hp:p.ok):GF prog 216 [.loc 0 0] [bR p x] (.tup []) [bR (Go.Im.kX p) x]:=by
 have ht:=so p 0 x hp aM;unfold Go.Im.kX;generalize Go.Im.tok p 0=t at *;have hf:=GM p 7 t.at_ x;refine ai func216 ntmps216 ?_;refine D [0] ht ?_;refine D [0] hf ?_;exact gL
theorem xd (p:RS) (d:Nat) (x:PX) (hp:p.ok):GF prog 240 [.loc 0 0,.v (ii (d:Nat))] [bR p x] (.v (.bool ((Go.Im.bT p d).code==0))) [bR (Go.Im.bT p d) x]:=by
 have ht:=so p 0 x hp aM;unfold Go.Im.bT;generalize Go.Im.tok p 0=t at *
 by_cases h:d > 60
 ·have h':decide ((60:Int) < (d:Int))=true:=by simpa using by omega
  rw [ae h];have hf:=GM p 9 t.at_ x;generalize p.fail 9 t.at_=q at *;refine ai func240 ntmps240 ?_;refine D [0] ht ?_;refine D [0] hf ?_;exact ak
 ·have h':decide ((60:Int) < (d:Int))=false:=by simpa using by omega
  rw [ab h];refine ai func240 ntmps240 ?_;exact ak
theorem kL (p:RS) (k:Nat) (s:ah) (x:PX) (hp:p.ok) (hk:k<=1):GF prog 213 [.loc 0 0,.v (ii (k:Nat)),.v (sv s)] [bR p x] (.v (.bool (Go.Im.is p k s))) [bR p x]:=by
 have ht:=so p k x hp hk;unfold Go.Im.is;generalize Go.Im.tok p k=t at *
 cases h:(t.kind==3) with
 | true =>
  rw [Bool.true_and];refine ai func213 ntmps213 ?_;refine D [0] ht ?_;exact ak
 | false =>
  rw [Bool.false_and];refine ai func213 ntmps213 ?_;refine D [0] ht ?_;exact ak
theorem rP (p:RS) (x:PX) (hp:p.ok):GF prog 214 [.loc 0 0] [bR p x] (.v (sv (Go.Im.tok p 0).s)) [bR (Go.Im.bu p) x]:=by
 have ht:=so p 0 x hp aM;have hw:=Ab p x hp;have hpp:=hp.2;have E8:=hp.1;unfold Go.Im.bu;generalize Go.Im.tok p 0=t at *;have hf:=GM p 8 t.at_ x
 by_cases hc:p.code=0
 ·have dK:(p.code != 0)=false:=by simpa using hc
  rw [ae hc]
  by_cases F:t.kind=2
  ·have rz:(t.kind != 2)=false:=by simpa using F
   rw [ae F]
   by_cases hl:t.s.length > 12
   ·have jY:decide ((12:Int) < (t.s.length:Int))=true:=by simpa using by omega
    rw [ae hl];refine ai func214 ntmps214 ?_;refine D [0] ht ?_;refine D [0] hf ?_;exact ak
   ·have jY:decide ((12:Int) < (t.s.length:Int))=false:=by simpa using by omega
    rw [ab hl];refine ai func214 ntmps214 ?_;refine D [0] ht ?_;exact ak
  ·have rz:(t.kind != 2)=true:=by simpa using F
   rw [ab F];refine ai func214 ntmps214 ?_;refine D [0] ht ?_;refine D [0] hw ?_;exact ak
 ·have dK:(p.code != 0)=true:=by simpa using hc
  rw [ab hc];refine ai func214 ntmps214 ?_;refine D [0] ht ?_;exact ak
theorem fB (p:RS) (s:ah) (x:PX) (hp:p.ok):GF prog 217 [.loc 0 0,.sl 1 [[.v (sv s)]]] [bR p x] (.tup []) [bR (Go.Im.want p s) x]:=by
 have hi:=kL p 0 s x hp aM;have hw:=Ab p x hp;have hpp:=hp.2;have E8:=hp.1;unfold Go.Im.want;generalize Go.Im.kX p=q at *;have hr:([[GV.v (sv s)]]:List (List GV))[0]?=some [.v (sv s)]:=rfl;refine ai func217 ntmps217 ?_
 by_cases hc:p.code=0
 ·have dK:(p.code != 0)=false:=by simpa using hc
  rw [ae hc]
  cases h:Go.Im.is p 0 s with
  | true =>
   rw [h] at hi;rw [ae rfl];refine GW.range 1 (fun k fr Γ=>fr=[.loc 0 0,U,U,U,U,U,.sl 1 [[.v (sv s)]],.v (ii ((1:Nat):Int)),.v (ii (k:Nat)),U,U,U,U,U,U,U,U,U,U,U,U,U,U,U,U,U,U,U,U,U,U]/\((k=0/\Γ=[bR p x])\/(1<=k/\Γ=[bR p.next x]))) ?_ aM ?_ ?_ ?_
   ·exact ⟨_,_,Wk.aK av,rfl,.inl ⟨rfl,rfl⟩⟩
   ·rintro k _ _ ⟨rfl,_⟩;exact dI
   ·rintro k _ _ hk ⟨rfl,⟨rfl,rfl⟩ | ⟨I,_⟩⟩
    ·refine G ?_;refine D [0] hi ?_;exact ⟨rfl,rfl,_,_,Wk.aK av,rfl,.inr ⟨aH _,rfl⟩⟩
    ·omega
   ·rintro _ _ ⟨rfl,⟨I,_⟩ | ⟨_,rfl⟩⟩
    ·cases I
    ·exact l8
  | false =>
   rw [h] at hi;rw [ab aM];refine GW.range 1 (fun k fr Γ=>fr=[.loc 0 0,U,U,U,U,U,.sl 1 [[.v (sv s)]],.v (ii ((1:Nat):Int)),.v (ii (k:Nat)),U,U,U,U,U,U,U,U,U,U,U,U,U,U,U,U,U,U,U,U,U,U]/\k=0/\Γ=[bR p x]) ?_ aM ?_ ?_ ?_
   ·exact jW
   ·rintro k _ _ ⟨rfl,_⟩;exact dI
   ·rintro k _ _ hk ⟨rfl,rfl,rfl⟩;refine G ?_;refine D [0] hi ?_;refine D [0] hw ?_;exact gL
   ·rintro _ _ ⟨rfl,I,_⟩;cases I
 ·have dK:(p.code != 0)=true:=by simpa using hc
  rw [ab hc];refine GW.range 1 (fun k fr Γ=>fr=[.loc 0 0,U,U,U,U,U,.sl 1 [[.v (sv s)]],.v (ii ((1:Nat):Int)),.v (ii (k:Nat)),U,U,U,U,U,U,U,U,U,U,U,U,U,U,U,U,U,U,U,U,U,U]/\k=0/\Γ=[bR p x]) ?_ aM ?_ ?_ ?_
  ·exact jW
  ·rintro k _ _ ⟨rfl,_⟩;exact dI
  ·rintro k _ _ hk ⟨rfl,rfl,rfl⟩;exact l8
  ·rintro _ _ ⟨rfl,I,_⟩;cases I
end Go.Xg
namespace Go.Xg
open Go.RowKit Go.Xw Go.Proofs Tryz
open Go.Xp (Tok Nd T br one levels)
open Go.Sp
attribute [local irreducible] GW GL GO YG GC GA ba bc
mutual
def pT:T->GV
 | .mk n l=>.box [.v (ii n.kind),.v (ii n.at_),.v (ii n.n),.v (sv n.s),.v (.slice none 0 0),.sl 1 (lh l)] 0
def lh:List T->List (List GV)
 | []=>[]
 | t::r=>[pT t]::lh r
end
abbrev qT (t:T):GV:=.box [.v (ii t.n.kind),.v (ii t.n.at_),.v (ii t.n.n),.v (sv t.n.s),.v (.slice none 0 0),.sl 1 (lh t.kids)] 0
theorem Yy (t:T):pT t=qT t:=by cases t;rw [pT];rfl
theorem ir (l:List T):lh l=l.map fun t=>[qT t]:=by
 induction l with
 | nil=>rfl
 | cons t l ih=>rw [lh,ih,Yy];rfl
theorem nH (l:List T):(lh l).length=l.length:=by rw [ir];simp
theorem wG (l:List T) (t:T):lh (l++[t])=lh l++[[qT t]]:=by rw [ir,ir];simp
theorem C9 {l:List T} {i:Nat} {t:T} (h:l[i]?=some t):(lh l)[i]?=some [qT t]:=by rw [ir,aV,h];rfl
theorem O0 (k a:Int) (s:ah) (rows:List (List GV)):GF prog 239 [.v (ii k),.v (ii a),.v (sv s),.sl 1 rows] [] (.loc 0 0) [.box 178 [.v (ii k),.v (ii a),.v (ii 0),.v (sv s),.v (.slice none 0 0),.sl 1 rows]]:=by
 refine ai func239 ntmps239 ?_;refine GW.wk (Wk.cells 0 rfl (ds:=[.v (ii k),.v (ii a),.v (ii 0),.v (sv s),.v (.slice none 0 0),.sl 1 rows]) jR) ?_;refine GW.ret ?_;refine pk (n:=1) rfl dH rfl (aX _) rfl rfl ?_;exact ⟨rfl,rfl⟩
theorem eY (k a:Int) (s:ah) (l:List T) (rows:List (List GV)) (h:lh l=rows):GF prog 239 [.v (ii k),.v (ii a),.v (sv s),.sl 1 rows] [] (qT (one k a s l)) []:=by
 subst h;refine ai func239 ntmps239 ?_;refine GW.wk (Wk.cells 0 rfl (ds:=[.v (ii k),.v (ii a),.v (ii 0),.v (sv s),.v (.slice none 0 0),.sl 1 (lh l)]) jR) ?_;refine GW.wk (Wk.freeze (i:=0) rfl rfl rfl (aX _)) ?_;exact ak
theorem uL:GF prog 202 [] [] (.sl 1 (levels.map fun l=>[strs l])) []:=by
 refine ai func202 ntmps202 ?_
 iterate 10 (refine b6 ?_)
 exact ax
end Go.Xg
namespace Go.Xg
open GV (U)
open Go.RowKit Go.Xw Go.Proofs Tryz
open Go.Xp (Tok Nd T levels eI bK aO aC)
open Go.Im (oU sM ve mh dh gH uZ kU gV ra rb)
attribute [local irreducible] GW GL GO YG GC GA ba bc
theorem decDigits_eq (n:Nat):Go.Lib.decDigits n=eI n:=by
 induction n using Nat.strongRecOn with
 | _ n ih =>
  unfold Go.Lib.decDigits eI;split
  ·rfl
  ·rw [ih (n / 10) ag]
theorem Ud (n:Int):Go.Lib.itoa n=oU n:=by
 unfold Go.Lib.itoa oU;rw [decDigits_eq,decDigits_eq]
theorem MH (n:Int) (h0 : -9223372036854775808<=n) (I:n<=9223372036854775807):GF prog 158 [.v (ii n)] [] (.v (sv (oU n))) []:=by
 refine GF.WB (vs:=[ii n]) fun K β w ht hf=>?_
 obtain ⟨E,z,mc⟩:=uc.all ht hf ht.pow (zs:=wH.map fun z=>Value.int .u64 z) aM (fun m o x hx=>by
  rw [aV] at hx;unfold yg;rw [ab aM,ae rfl]
  cases hs:wH[o]? with
  | none=>rw [hs] at hx;cases hx
  | some y=>rw [hs] at hx;cases hx;rfl)
 have BI:Go.Lib.TabIs prog w "internal/strconv.uint64pow10" .u64 Go.Lib.pow10Tab:=by
  unfold Go.Lib.TabIs World.var?;rw [show prog.globalNamed "internal/strconv.uint64pow10" = some 1 by kernel_rfl,show Go.Lib.pow10Tab=wH by decide];simp only [Option.bind_some,mc]
 refine nm.qC (Calls.mono (strconv_Itoa n h0 I w BI) ?_);rintro e w' ⟨F,k,os,h3⟩;refine ⟨_,F,by rw [Ud];rfl,?_⟩;subst h3;refine ⟨rfl,rfl,rfl,by simp [Go.Sort.grow,World.drewN],fun j hj _=>?_⟩;simp only [Go.Sort.grow,World.drewN];rw [Array.getElem?_append_left hj]
theorem Q2 (l:List ah) (s:ah) (hl:l.length<=1099511627776):GF prog 203 [strs l,.box [.v (sv s)] 0] [] (.v (.bool (l.contains s))) []:=by
 have h:=lx l s hl;generalize l.contains s=b at *;refine ai func203 ntmps203 ?_;refine D [] h ?_;exact ak
def DR (ls:List (List ah)) (s:ah):Int:=match ls.findIdx? (fun l=>l.contains s) with | some i=>(i:Int) | none => -1
theorem IK (ls:List (List ah)) (s:ah) (hn:ls.length<=1099511627776) (hl:∀ l∈ls,l.length<=1099511627776) :
  GF prog 201 [.sl 1 (ls.map fun l=>[strs l]),.fn (.func 203) [] [.box [.v (sv s)] 0]] [] (.v (ii (DR ls s))) []:=by
 have eL:(ls.map fun l=>[strs l]).length=ls.length:=by simp
 refine ai func201 ntmps201 ?_;refine GW.range (ls.map fun l=>[strs l]).length (fun k fr Γ=>fr=[.sl 1 (ls.map fun l=>[strs l]),.fn (.func 203) [] [.box [.v (sv s)] 0],U,U,U,U,U,.v (ii ((ls.map fun l=>[strs l]).length:Int)),.v (ii (k:Nat)),U,U,U,U,U,U,U,U,U,U]/\Γ=[]/\(ls.take k).all (fun l=>!(l.contains s))=true) ?_ ag ?_ ?_ ?_
 ·exact jW
 ·exact ig
 ·rintro k _ _ ar ⟨rfl,rfl,aY⟩;rw [eL] at ar
  have de:ls[k]?=some ls[k]:=by simp [ar]
  have hr:(ls.map fun l=>[strs l])[k]?=some [strs ls[k]]:=by rw [aV,de];rfl
  have hc:=Q2 ls[k] s (hl _ (getElem_mem ar))
  have bB:(ls.take (k+1)).all (fun l=>!(l.contains s))=((ls.take k).all (fun l=>!(l.contains s))&&!(ls[k].contains s)):=by rw [cq,de,all_append];simp
  have AA:ls[k].contains s=true->DR ls s=(k:Int):=fun h0=>by
   have:ls.findIdx? (fun l=>l.contains s)=some k:=by
    rw [List.findIdx?_eq_some_iff_getElem];refine ⟨ar,h0,fun j hj=>?_⟩;rw [fE] at aY;have:=aY ls[j] (by rw [List.mem_take_iff_getElem];exact ⟨j,by omega,rfl⟩);simpa using this
   unfold DR;rw [this]
  generalize ls[k]=l at *
  cases hb:l.contains s with
  | true =>
   rw [hb] at hc;rw [AA hb];refine G ?_;refine kT [] hc ?_;exact ax
  | false =>
   rw [hb] at hc bB;refine G ?_;refine kT [] hc ?_;refine G ?_;exact ⟨rfl,rfl,_,_,Wk.aK av,rfl,rfl,by rw [bB,aY];rfl⟩
 ·rintro _ _ ⟨rfl,rfl,aY⟩;rw [eL,cy] at aY
  have:ls.findIdx? (fun l=>l.contains s)=none:=by
   rw [List.findIdx?_eq_none_iff];intro x hx;rw [fE] at aY;simpa using aY x hx
  unfold DR;rw [this];exact ax
theorem Fl (s:ah):GF prog 163 [.v (sv s)] [] (.v (ii (sM s))) []:=by
 have I:=uL;have F:=IK levels s aM aM;rw [show sM s=DR levels s from rfl];generalize DR levels s=z at *;generalize levels=ls at *;refine ai func163 ntmps163 ?_;refine GL.wk (Wk.freeze (i:=0) rfl rfl rfl (aH _)) ?_;refine GN (by simp only [om,nM];rfl) ?_;refine D [] I ?_;refine D [] F ?_;exact ak
end Go.Xg
namespace Go.Xg
open GV (U)
open Go.RowKit Go.Xw Go.Proofs Tryz
open Go.Xp (Tok Nd T levels eI bK aO aC)
open Go.Im (oU sM ve mh dh gH uZ kU gV ra rb fo qW cY)
attribute [local irreducible] GW GL GO YG GC GA ba bc
theorem OS (t:T) (z:Int):GF prog 164 [uT t,.v (ii z)] [] (.v (.bool (mh t z))) []:=by
 have h:=Fl t.n.s;unfold mh
 cases hk:(t.n.kind==6) with
 | true =>
  generalize sM t.n.s=y at *;refine ai func164 ntmps164 ?_;refine D [] h ?_;exact ak
 | false =>
  refine ai func164 ntmps164 ?_;exact ak
theorem vE (t:T) (b:Bool) (x:ah) (hx:x.length<=1099511627776) (h:GF prog 119 [uT t] [] (.v (sv x)) []) :
  GF prog 162 [uT t,.v (.bool b)] [] (.v (sv (ve b x))) []:=by
 unfold ve
 cases b with
 | true =>
  refine ai func162 ntmps162 ?_;refine D [] h ?_;exact ak
 | false =>
  refine ai func162 ntmps162 ?_;refine D [] h ?_;exact ak
theorem Q4 (ex:FuncId) [hf:aI prog ex] (tx:T->ah) (l:List T) (h:∀ t∈l,GF prog ex [uT t] [] (.v (sv (tx t))) []) (hj:(bK (l.map tx)).length<=1099511627776) (hl:l.length<=1099511627776) :
  GF prog 161 [.sl 1 (cv l),.v (.func (.func ex) #[] #[])] [] (.v (sv (bK (l.map tx)))) []:=by
 have oy:=rX l;have hJ:=MI (l.map tx) hj (by simpa using hl);refine ai func161 ntmps161 ?_;refine GW.wk (Wk.DY (t:=5) (a:=none) (c:=0) 9 1 rfl) ?_;refine GW.range (cv l).length (fun k fr Γ=>∃ m rows,fr=[.sl 1 (cv l),.v (.func (.func ex) #[] #[]),U,U,U,.vec 0 m,U,U,.sl 1 (cv l),.v (ii ((cv l).length:Int)),.v (ii (k:Nat)),U,U,U,U,U,U,U,U,U,U,U,U]/\Γ=[.vec 9 1 0 rows]/\rows.length=m/\rows=((l.take k).map tx).map (fun s=>[GV.v (sv s)])/\m=k) ?_ ag ?_ ?_ ?_
 ·exact ⟨_,_,Wk.aK av,0,[],rfl,rfl,rfl,rfl,rfl⟩
 ·rintro k _ _ ⟨m,rows,rfl,rfl,_⟩;exact dI
 ·rintro k _ _ ar ⟨m,rows,rfl,rfl,hm,bG,uz⟩;rw [oy] at ar
  have de:l[k]?=some l[k]:=by simp [ar]
  have hr:=wK de;have ht:=h l[k] (getElem_mem ar)
  have bB:((l.take (k+1)).map tx).map (fun s=>[GV.v (sv s)])=rows++[[.v (sv (tx l[k]))]]:=by rw [cq,de,bG,o0,o0];rfl
  generalize l[k]=t at *;refine G ?_;refine ju [] ht ?_;refine G ?_;refine fG ?_;refine G ?_;exact ⟨rfl,rfl,_,_,Wk.aK av,_,_,rfl,rfl,by simp [hm],bB.symm,by omega⟩
 ·rintro _ _ ⟨m,rows,rfl,rfl,hm,bG,uz⟩;rw [oy,cy] at bG;refine be ?_;refine GW.wk (Wk.ki (t:=5) rfl rfl rfl hm) ?_;subst bG;refine G ?_;refine D [] hJ ?_;exact ak
theorem X5 {t:T} (h:cY t.n.kind t.kids.length=true) (hk:t.n.kind=3\/t.n.kind=5):∃ a,t.kids=[a]:=by
 have:t.kids.length=1:=by
  unfold cY at h
  rcases hk with hk | hk <;> rw [hk] at h <;> simp at h <;> omega
 match hl:t.kids,this with
 | [a],_=>exact ⟨a,rfl⟩
theorem X6 {t:T} (h:cY t.n.kind t.kids.length=true) (hk:t.n.kind=6):∃ a b,t.kids=[a,b]:=by
 have:t.kids.length=2:=by
  unfold cY at h;rw [hk] at h;simp at h;omega
 match hl:t.kids,this with
 | [a,b],_=>exact ⟨a,b,rfl⟩
theorem UX:∀ (N:Nat) (t:T),aO t<=N->fo t=true->ra t->kU t<=1099511627776->GF prog 119 [uT t] [] (.v (sv (dh t))) []:=by
 intro N
 induction N with
 | zero=>intro t h;rw [Go.Xp.eO] at h;omega
 | succ N ih =>
 intro t hN hk hn hw;have hlen:=Go.Im.wR _ t (aH _) hn;rw [Go.Xp.eO] at hN;rw [Go.Im.yW,aE,Go.Im.qf,fE] at hk;rw [Go.Im.rS] at hn
 have kD:∀ a∈t.kids,GF prog 119 [uT a] [] (.v (sv (dh a))) []/\(dh a).length<=1099511627776:=fun a ha=>by
  have I:=Go.Im.u9 ha;rw [Go.Im.pR] at hw;have h3:=Go.Im.ku hn.2 ha
  have F:aO a<=aC t.kids:=by
   have:∀ (l:List T),a∈l->aO a<=aC l:=by
    intro l
    induction l with
    | nil=>intro h;cases h
    | cons b l ih2 =>
     intro h;rw [aC]
     rcases ei h with rfl | h
     ·omega
     ·have:=ih2 h;omega
   exact this _ ha
  have h4:=Go.Im.wR _ a (aH _) h3;exact ⟨ih a ag (hk.2 a ha) h3 ag,by omega⟩
 rw [Go.Im.Pt] at hlen |-;unfold uZ at hlen |-;have wq:=hk.1;have YZ:=@X5 t wq;have Z4:=@X6 t wq;have V3:=MH t.n.n hn.1.1 hn.1.2;have J2:=Fl t.n.s
 have eS:t.kids.length<=1099511627776:=by
  have:=Go.Im.Q0 t.kids;rw [Go.Im.pR] at hw;omega
 have FX:=fun hj=>Q4 119 dh t.kids (fun a ha=>(kD a ha).1) hj eS
 rw [<-Go.Im.Ed] at FX
 have rD:t.n.s.length<=1099511627776:=by rw [Go.Im.pR] at hw;omega
 have SG:(bK (gH t.kids)).length<=1099511627776:=by
  have I:=Go.Im.BP (gH t.kids)
  have F:((gH t.kids).map fun y=>y.length+2).sum<=gV t.kids:=by
   have:∀ (l:List T),rb l->((gH l).map fun y=>y.length+2).sum<=gV l:=by
    intro l
    induction l with
    | nil=>intro _;simp [gH]
    | cons a l ih2 =>
     intro h;rw [rb] at h;have I:=Go.Im.wR _ a (aH _) h.1;have F:=ih2 h.2;rw [gH,gV,List.map_cons,sum_cons];omega
   exact this _ hn.2
  rw [Go.Im.pR] at hw;omega
 have FX:=FX SG;clear SG;unfold uT;generalize mr:t.n.kind=kd at *
 by_cases I:kd=1
 ·subst I
  have c8:((1:Int)==1)=true:=by decide
  rw [ae rfl];refine ai func119 ntmps119 ?_;refine D [] V3 ?_;exact ak
 rw [ab I] at hlen |-
 have g1:(kd==1)=false:=by simpa using I
 by_cases h3:kd=3
 ·subst h3
  have c8:((3:Int)==1)=false:=by decide
  have qa:((3:Int)==3)=true:=by decide
  rw [ae rfl] at hlen |-;obtain ⟨a,ha⟩:=YZ (.inl rfl);rw [ha] at kD hlen |-;obtain ⟨c1,c2⟩:=kD a (List.mem_singleton.2 rfl)
  have hr:(cv [a])[0]?=some [uT a]:=by rw [lr];rfl
  simp only [gH,getD_cons_zero] at hlen |-;generalize cv [a]=rows at *;generalize dh a=x at *;refine ai func119 ntmps119 ?_;refine aJ (aD 0 12 (.a 12 (aD 13 3 .nil))) ?_;refine au ?_;refine az [] c1 ?_;exact ax
 rw [ab h3] at hlen |-
 have g3:(kd==3)=false:=by simpa using h3
 by_cases h4:kd=4
 ·subst h4
  have c8:((4:Int)==1)=false:=by decide
  have qa:((4:Int)==3)=false:=by decide
  have f4:((4:Int)==4)=true:=by decide
  rw [ae rfl] at hlen |-;generalize cv t.kids=rows at *;generalize bK (gH t.kids)=x at *;simp only [aZ,length_cons,length_nil] at hlen;refine ai func119 ntmps119 ?_;refine aJ (aD 0 10 (.a 10 (aD 11 3 .nil))) ?_;refine au ?_;refine az [] FX ?_;exact ax
 rw [ab h4] at hlen |-
 have g4:(kd==4)=false:=by simpa using h4
 by_cases h5:kd=5
 ·subst h5
  have c8:((5:Int)==1)=false:=by decide
  have qa:((5:Int)==3)=false:=by decide
  have f4:((5:Int)==4)=false:=by decide
  have f5:((5:Int)==5)=true:=by decide
  rw [ae rfl] at hlen |-;obtain ⟨a,ha⟩:=YZ (.inr rfl);rw [ha] at kD hlen |-;obtain ⟨c1,c2⟩:=kD a (List.mem_singleton.2 rfl)
  have hr:(cv [a])[0]?=some [uT a]:=by rw [lr];rfl
  simp only [gH,getD_cons_zero] at hlen |-;have VQ:=vE a (a.n.kind==6) (dh a) c2 c1;have nV:=Go.Im.zA (a.n.kind==6) (dh a);generalize cv [a]=rows at *;generalize hxx:ve (a.n.kind==6) (dh a)=x at *;refine ai func119 ntmps119 ?_;refine aJ (aD 0 23 (.a 23 (.q 24 (.q 25 .nil)))) ?_;refine au ?_;refine az [] VQ ?_;exact ax
 rw [ab h5] at hlen |-
 have g5:(kd==5)=false:=by simpa using h5
 by_cases h6:kd=6
 ·subst h6
  have c8:((6:Int)==1)=false:=by decide
  have qa:((6:Int)==3)=false:=by decide
  have f4:((6:Int)==4)=false:=by decide
  have f5:((6:Int)==5)=false:=by decide
  have f6:((6:Int)==6)=true:=by decide
  rw [ae rfl] at hlen |-;obtain ⟨a,b,ha⟩:=Z4 rfl;rw [ha] at kD hlen |-;obtain ⟨c1,c2⟩:=kD a (List.mem_cons_self);obtain ⟨d1,d2⟩:=kD b (cV _ List.mem_cons_self)
  have hr:(cv [a,b])[0]?=some [uT a]:=by rw [lr];rfl
  have lg:(cv [a,b])[1]?=some [uT b]:=by rw [lr];rfl
  simp only [gH,getD_cons_zero,getD_cons_succ] at hlen |-
  have aaW : -1<=sM t.n.s/\sM t.n.s<=9:=by
   unfold sM
   cases hf:levels.findIdx? (fun l=>l.contains t.n.s) with
   | none=>simp
   | some i =>
    rw [List.findIdx?_eq_some_iff_getElem] at hf;have:=hf.1
    have h9:levels.length=9:=by decide
    simp only;omega
  generalize sM t.n.s=lv at *;have gX:=OS a lv;have kE:=OS b (lv+1);have VQ:=vE a (mh a lv) (dh a) c2 c1;have ZS:=vE b (mh b (lv+1)) (dh b) d2 d1;generalize cv [a,b]=rows at *;generalize hxx:ve (mh a lv) (dh a)=x at *;generalize hyy:ve (mh b (lv+1)) (dh b)=y at *;simp only [aZ,length_cons,length_nil] at hlen;refine ai func119 ntmps119 ?_;refine D [] J2 ?_;refine aJ (aD 0 14 (aD 17 5 (aD 24 15 (.a 14 (.a 15 (.q 16 (.q 22 (.q 23 (.a 39 (.a 40 (.q 41 (.q 42 .nil)))))))))))) ?_;refine au ?_;refine zo [] gX ?_;refine au ?_;refine az [] VQ ?_;refine zo [] kE ?_;refine au ?_;refine az [] ZS ?_;exact ax
 rw [ab h6]
 have g6:(kd==6)=false:=by simpa using h6
 refine ai func119 ntmps119 ?_;exact ak
end Go.Xg
set_option maxHeartbeats 2000000
namespace Go.Xg
open GV (U)
open Go.RowKit Go.Xw Go.Proofs Tryz
open Go.Xp (Tok Nd T levels eI bK aO aC)
open Go.Im
attribute [local irreducible] GW GL GO YG GC GA ba bc
abbrev jx (f:FuncId):Value:=.func (.func f) #[] #[]
theorem QH (l:List ah) (d:Nat) (hb:(gq l d).length<=1099511627776) (hl:l.length<=1099511627776):GF prog 120 [strs l,.v (ii (d:Nat))] [] (.v (sv (gq l d))) []:=by
 have eL:(l.map fun s=>[GV.v (sv s)]).length=l.length:=by simp
 have vj:=ug l [123,32];unfold gq at hb |-;rw [aZ,vj] at hb;refine ai func120 ntmps120 ?_;refine GW.range (l.map fun s=>[GV.v (sv s)]).length (fun k fr Γ=>fr=[strs l,U,U,U,U,.v (sv (sU [123,32] (l.take k))),U,U,strs l,.v (ii ((l.map fun s=>[GV.v (sv s)]).length:Int)),.v (ii (k:Nat)),U,U,U,U,U,U,U,U,U,U]/\Γ=[]) ?_ ag ?_ ?_ ?_
 ·exact jb
 ·rintro k _ _ ⟨rfl,rfl⟩;exact dI
 ·rintro k _ _ ar ⟨rfl,rfl⟩;rw [eL] at ar
  have de:l[k]?=some l[k]:=by simp [ar]
  have ux:(l.map fun s=>[GV.v (sv s)])[k]?=some [.v (sv l[k])]:=by rw [aV,de];rfl
  have I:=ug (l.take (k+1)) [123,32];have F:=Pp l (k+1)
  have hz:ln (l.take (k+1))=ln (l.take k)+(l[k].length+1):=by rw [cq,de,Ik];simp [ln]
  have h3:=ug (l.take k) [123,32];rw [show l.take (k+1)=l.take k++[l[k]] by rw [cq,de];rfl,M6] at |-;generalize l[k]=z at *;generalize sU [123,32] (l.take k)=acc at *;simp only [length_cons,length_nil] at h3 hb
  have aaP:acc.length+z.length+3<=1099511627777:=by omega
  refine G ?_;exact ⟨rfl,rfl,_,_,Wk.aK av,rfl,rfl⟩
 ·rintro _ _ ⟨rfl,rfl⟩;rw [eL,cy];generalize sU [123,32] l=acc at *;simp only [aZ,length_cons,length_nil] at vj hb;exact ax
theorem Yk (ex bk:FuncId) [hf:aI prog ex] (tx:T->ah) (t a:T) (k:Nat) (hk:t.kids[k]?=some a) (h:GF prog ex [uT a] [] (.v (sv (tx a))) []) :
  GF prog 232 [.v (ii (k:Nat)),.box [.v (jx ex),.v (jx bk)] 0,.box [uT t] 0] [] (.v (sv (tx a))) []:=by
 have hr:=wK hk;generalize tx a=x at *;refine ai func232 ntmps232 ?_;refine aJ (aD 0 9 (.a 9 (.q 10 .nil))) ?_;refine au ?_;refine zo [] h ?_;refine au ?_;exact ax
structure Wr (ex bk:FuncId) (tx:T->ah) (inl:List ah->Nat->ah):Prop where
 expr:∀ a,fo a=true->ra a->kU a<=1099511627776->GF prog ex [uT a] [] (.v (sv (tx a))) []
 block:∀ l (d:Nat),(inl l d).length<=1099511627776->l.length<=1099511627776->d<=1099511627776->GF prog bk [strs l,.v (ii (d:Nat))] [] (.v (sv (inl l d))) []
 mem:∀ l d s,s∈l->s.length<=(inl l d).length
theorem Al (ex bk:FuncId) [he:aI prog ex] [hb:aI prog bk] (tx:T->ah) (inl:List ah->Nat->ah) (W:Wr ex bk tx inl) (t:T) (d:Nat) (hd:d+1<=1099511627776) (hl:t.kids.length<=1099511627776) (hlen:(nU tx inl d t).length<=1099511627776)
  (h:∀ a∈t.kids,(kQ tx inl (d+1) a).length<=1099511627776->GF prog 200 [.agg [.v (jx ex),.v (jx bk)],uT a,.v (ii ((d+1:Nat):Int))] [] (.v (sv (kQ tx inl (d+1) a))) []) :
  GF prog 160 [.agg [.v (jx ex),.v (jx bk)],uT t,.v (ii (d:Nat))] [] (.v (sv (nU tx inl d t))) []:=by
 have oy:=rX t.kids;rw [MW,KG] at hlen |-;have eA:=W.block (t.kids.map (kQ tx inl (d+1))) d hlen (by simpa using hl) ag
 have hk:∀ a∈t.kids,GF prog 200 [.agg [.v (jx ex),.v (jx bk)],uT a,.v (ii ((d+1:Nat):Int))] [] (.v (sv (kQ tx inl (d+1) a))) []:=fun a ha =>
  h a ha (km (W.mem _ d _ (tI.2 ⟨a,ha,rfl⟩)) hlen)
 generalize inl (t.kids.map (kQ tx inl (d+1))) d=y at *;refine ai func160 ntmps160 ?_;refine GW.wk (Wk.DY (t:=7) (a:=none) (c:=0) 9 1 rfl) ?_;refine GW.range (cv t.kids).length (fun k fr Γ=>∃ m rows,fr=[U,U,.v (ii (d:Nat)),.loc 0 0,U,U,U,.vec 1 m,U,U,U,U,U,.sl 1 (cv t.kids),.v (ii ((cv t.kids).length:Int)),.v (ii (k:Nat)),U,U,U,U,U,U,U,U,U,U,U,U,U,U,U,U,U]/\Γ=[.box 182 [.v (jx ex),.v (jx bk)],.vec 9 1 0 rows]/\rows.length=m/\rows=((t.kids.take k).map (kQ tx inl (d+1))).map (fun s=>[GV.v (sv s)])/\m=k) ?_ ag ?_ ?_ ?_
 ·exact ⟨_,_,Wk.aK av,0,[],rfl,rfl,rfl,rfl,rfl⟩
 ·rintro k _ _ ⟨m,rows,rfl,rfl,_⟩;exact dI
 ·rintro k _ _ ar ⟨m,rows,rfl,rfl,hm,bG,uz⟩;rw [oy] at ar
  have de:t.kids[k]?=some t.kids[k]:=by simp [ar]
  have hr:=wK de;have ht:=hk t.kids[k] (getElem_mem ar)
  have bB:((t.kids.take (k+1)).map (kQ tx inl (d+1))).map (fun s=>[GV.v (sv s)])=rows++[[.v (sv (kQ tx inl (d+1) t.kids[k]))]]:=by rw [cq,de,bG,o0,o0];rfl
  generalize t.kids[k]=yX at *;generalize kQ tx inl (d+1) yX=z at *;refine G ?_;refine D [] ht ?_;refine fG ?_;refine G ?_;exact ⟨rfl,rfl,_,_,Wk.aK av,_,_,rfl,rfl,by simp [hm],bB.symm,by omega⟩
 ·rintro _ _ ⟨m,rows,rfl,rfl,hm,bG,uz⟩;rw [oy,cy] at bG;refine be ?_;refine GW.wk (Wk.ki (t:=7) rfl rfl rfl hm) ?_;subst bG;refine G ?_;refine ju [] eA ?_;exact ax
theorem X7 {t:T} {n:Nat} (h:cY t.n.kind t.kids.length=true) (hk:(n=1/\(t.n.kind=13\/t.n.kind=7\/t.n.kind=11\/t.n.kind=12))\/(n=2/\(t.n.kind=8\/t.n.kind=10))):t.kids.length=n:=by
 unfold cY at h
 rcases hk with ⟨rfl,hk⟩ | ⟨rfl,hk⟩
 ·rcases hk with hk | hk | hk | hk <;> rw [hk] at h <;> simp at h <;> omega
 ·rcases hk with hk | hk <;> rw [hk] at h <;> simp at h <;> omega
theorem Wt {t:T} (h:cY t.n.kind t.kids.length=true) (hk:t.n.kind=9):t.kids.length=2\/t.kids.length=3:=by
 unfold cY at h;rw [hk] at h;simp at h;omega
theorem Jh (ex bk:FuncId) [he:aI prog ex] [hb:aI prog bk] (tx:T->ah) (inl:List ah->Nat->ah) (W:Wr ex bk tx inl):∀ (N:Nat) (t:T),aO t<=N->fo t=true->ra t->kU t<=1099511627776->∀ d,d+aO t<=1099511627776->(kQ tx inl d t).length<=1099511627776 ->
  GF prog 200 [.agg [.v (jx ex),.v (jx bk)],uT t,.v (ii (d:Nat))] [] (.v (sv (kQ tx inl d t))) []:=by
 intro N
 induction N with
 | zero=>intro t h;rw [Go.Xp.eO] at h;omega
 | succ N ih =>
 intro t hN hk hn hw d hd hlen;have fg:=W.expr t hk hn hw;rw [Go.Xp.eO] at hN hd;rw [Go.Im.yW,aE,Go.Im.qf,fE] at hk;rw [Go.Im.rS] at hn;have hwe:=Go.Im.pR t
 have LH:∀ (l:List T) (a:T),a∈l->aO a<=aC l:=by
  intro l
  induction l with
  | nil=>intro a h;cases h
  | cons b l ih2 =>
   intro a h;rw [aC]
   rcases ei h with rfl | h
   ·omega
   ·have:=ih2 a h;omega
 have iD:=fun (k:Nat) (a:T) (mK:t.kids[k]?=some a)=>Yk ex bk tx t a k mK (W.expr a (hk.2 a (bm mK)) (Go.Im.ku hn.2 (bm mK)) (by have:=Go.Im.u9 (bm mK);omega))
 have eA:∀ a∈t.kids,(nU tx inl d a).length<=1099511627776->GF prog 160 [.agg [.v (jx ex),.v (jx bk)],uT a,.v (ii (d:Nat))] [] (.v (sv (nU tx inl d a))) []:=fun a ha V1=>by
  have I:=LH _ a ha;have F:=Go.Im.u9 ha;have h3:=hk.2 a ha;have h4:=Go.Im.ku hn.2 ha;rw [Go.Im.yW,aE,Go.Im.qf,fE] at h3;rw [Go.Im.rS] at h4;have h5:=Go.Xp.eO a;have h6:=Go.Xp.bZ a.kids;have h7:=Go.Im.pR a
  refine Al ex bk tx inl W a d ag ag V1 fun b fv hlb=>?_
  have h8:=LH _ b fv;have h9:=Go.Im.u9 fv;exact ih b ag (h3.2 b fv) (Go.Im.ku h4.2 fv) ag (d+1) ag hlb
 rw [Pn] at hlen |-;unfold yc at hlen |-;rw [Jt] at hlen |-;have wq:=@X7 t;have Z5:=@Wt t hk.1
 have wq:=fun n=>@wq n hk.1
 unfold uT at fg |-;unfold uT at iD;generalize mr:t.n.kind=kd at *
 by_cases fu:kd=13
 ·subst fu
  have f13:((13:Int)==13)=true:=by decide
  rw [ae rfl] at hlen |-;have gX:=wq 1 (.inl ⟨rfl,.inl rfl⟩)
  obtain ⟨a,ha⟩:∃ a,t.kids=[a]:=by
   match hl:t.kids,gX with
   | [a],_=>exact ⟨a,rfl⟩
  have h0:=iD 0 a (by rw [ha];rfl);rw [ha] at hlen |-;rw [ha] at h0;simp only [List.map_cons,map_nil,getD_cons_zero,aZ,length_cons,length_nil] at hlen |-;generalize tx a=x at *;generalize cv [a]=rows at *;refine dT func200 ntmps200 ?_;refine jv ?_;refine GL.wk (Wk.freeze (i:=0) rfl rfl rfl (aX _)) ?_;refine GL.wk (Wk.freeze (i:=1) rfl rfl rfl (aX _)) ?_;refine GN (by simp only [om,nM];rfl) ?_;refine G ?_;refine aJ (aD 0 8 (.a 8 (aD 9 3 .nil))) ?_;refine au ?_;refine oM [] h0 ?_;refine au ?_;exact ax
 rw [ab fu] at hlen |-
 have g13:(kd==13)=false:=by simpa using fu
 by_cases h7:kd=7
 ·subst h7
  have f13:((7:Int)==13)=false:=by decide
  have f7:((7:Int)==7)=true:=by decide
  rw [ae rfl] at hlen |-;have gX:=wq 1 (.inl ⟨rfl,.inr (.inl rfl)⟩)
  obtain ⟨a,ha⟩:∃ a,t.kids=[a]:=by
   match hl:t.kids,gX with
   | [a],_=>exact ⟨a,rfl⟩
  have h0:=iD 0 a (by rw [ha];rfl);rw [ha] at hlen |-;rw [ha] at h0;simp only [List.map_cons,map_nil,getD_cons_zero,aZ,length_cons,length_nil] at hlen |-;generalize tx a=x at *;generalize cv [a]=rows at *;refine dT func200 ntmps200 ?_;refine jv ?_;refine GL.wk (Wk.freeze (i:=0) rfl rfl rfl (aX _)) ?_;refine GL.wk (Wk.freeze (i:=1) rfl rfl rfl (aX _)) ?_;refine GN (by simp only [om,nM];rfl) ?_;refine G ?_;refine aJ (aD 0 7 (.a 7 (aD 8 3 .nil))) ?_;refine au ?_;refine oM [] h0 ?_;refine au ?_;exact ax
 rw [ab h7] at hlen |-
 have g7:(kd==7)=false:=by simpa using h7
 by_cases h8:kd=8
 ·subst h8
  have f13:((8:Int)==13)=false:=by decide
  have f7:((8:Int)==7)=false:=by decide
  have f8:((8:Int)==8)=true:=by decide
  rw [ae rfl] at hlen |-;have gX:=wq 2 (.inr ⟨rfl,.inl rfl⟩)
  obtain ⟨a,b,ha⟩:∃ a b,t.kids=[a,b]:=by
   match hl:t.kids,gX with
   | [a,b],_=>exact ⟨a,b,rfl⟩
  have h0:=iD 0 a (by rw [ha];rfl);have I:=iD 1 b (by rw [ha];rfl);rw [ha] at hlen |-;rw [ha] at h0 I;simp only [List.map_cons,map_nil,getD_cons_zero,getD_cons_succ,aZ,length_cons,length_nil] at hlen |-;generalize tx a=x at *;generalize tx b=y at *;generalize cv [a,b]=rows at *;refine dT func200 ntmps200 ?_;refine jv ?_;refine GL.wk (Wk.freeze (i:=0) rfl rfl rfl (aX _)) ?_;refine GL.wk (Wk.freeze (i:=1) rfl rfl rfl (aX _)) ?_;refine GN (by simp only [om,nM];rfl) ?_;refine G ?_;refine aJ (aD 0 7 (.q 10 (.a 7 (.q 8 (.q 9 (.a 11 (aD 12 3 .nil))))))) ?_;refine au ?_;refine oM [] h0 ?_;refine au ?_;refine oM [] I ?_;refine au ?_;exact ax
 rw [ab h8] at hlen |-
 have g8:(kd==8)=false:=by simpa using h8
 by_cases h9:kd=9
 ·subst h9
  have f13:((9:Int)==13)=false:=by decide
  have f7:((9:Int)==7)=false:=by decide
  have f8:((9:Int)==8)=false:=by decide
  have f9:((9:Int)==9)=true:=by decide
  rw [ae rfl] at hlen |-
  rcases Z5 rfl with gX | gX
  ·skip
   obtain ⟨a,b,ha⟩:∃ a b,t.kids=[a,b]:=by
    match hl:t.kids,gX with
    | [a,b],_=>exact ⟨a,b,rfl⟩
   have h0:=iD 0 a (by rw [ha];rfl)
   have lg:(cv [a,b])[1]?=some [uT b]:=by rw [lr];rfl
   have Hp:(cv [a,b]).length=2:=by rw [rX];rfl
   have Ho:(((cv [a,b]).length:Int)==3)=false:=by rw [Hp];decide
   rw [ha] at hlen |-;rw [ha] at h0;rw [ab (by simp)] at hlen |-;simp only [List.map_cons,map_nil,getD_cons_zero,getD_cons_succ,aZ,length_cons,length_nil] at hlen |-;have Az:=eA b (by rw [ha];simp) ag;generalize tx a=x at *;generalize nU tx inl d b=y at *;clear eA iD ih;generalize cv [a,b]=rows at *;refine dT func200 ntmps200 ?_;refine jv ?_;refine GL.wk (Wk.freeze (i:=0) rfl rfl rfl (aX _)) ?_;refine GL.wk (Wk.freeze (i:=1) rfl rfl rfl (aX _)) ?_;refine GN (by simp only [om,nM];rfl) ?_;refine G ?_;refine aJ (.q 0 (aD 4 8 (.a 1 (.q 2 (.q 3 (.a 12 (.q 13 (.q 14 .nil)))))))) ?_;refine au ?_;refine oM [] h0 ?_;refine au ?_;refine az [] Az ?_;exact ax
  ·skip
   obtain ⟨a,b,c,ha⟩:∃ a b c,t.kids=[a,b,c]:=by
    match hl:t.kids,gX with
    | [a,b,c],_=>exact ⟨a,b,c,rfl⟩
   have h0:=iD 0 a (by rw [ha];rfl)
   have lg:(cv [a,b,c])[1]?=some [uT b]:=by rw [lr];rfl
   have eE:(cv [a,b,c])[2]?=some [uT c]:=by rw [lr];rfl
   have Hp:(cv [a,b,c]).length=3:=by rw [rX];rfl
   have Ho:(((cv [a,b,c]).length:Int)==3)=true:=by rw [Hp];decide
   rw [ha] at hlen |-;rw [ha] at h0;rw [ae (by simp)] at hlen |-;simp only [List.map_cons,map_nil,getD_cons_zero,getD_cons_succ,aZ,length_cons,length_nil] at hlen |-;have Az:=eA b (by rw [ha];simp) ag;have fv:=eA c (by rw [ha];simp) ag;generalize tx a=x at *;generalize nU tx inl d b=y at *;generalize nU tx inl d c=z at *;clear eA iD ih;generalize cv [a,b,c]=rows at *;refine dT func200 ntmps200 ?_;refine jv ?_;refine GL.wk (Wk.freeze (i:=0) rfl rfl rfl (aX _)) ?_;refine GL.wk (Wk.freeze (i:=1) rfl rfl rfl (aX _)) ?_;refine GN (by simp only [om,nM];rfl) ?_;refine G ?_;refine aJ (.q 0 (aD 4 8 (.a 1 (.q 2 (.q 3 (.a 12 (.q 13 (.q 14 .nil)))))))) ?_;refine au ?_;refine oM [] h0 ?_;refine au ?_;refine az [] Az ?_;refine G ?_;refine aJ (aD 0 9 (.a 9 (aD 10 3 .nil))) ?_;refine au ?_;refine az [] fv ?_;exact ax
 rw [ab h9] at hlen |-
 have g9:(kd==9)=false:=by simpa using h9
 by_cases ma:kd=10
 ·subst ma
  have f13:((10:Int)==13)=false:=by decide
  have f7:((10:Int)==7)=false:=by decide
  have f8:((10:Int)==8)=false:=by decide
  have f9:((10:Int)==9)=false:=by decide
  have f10:((10:Int)==10)=true:=by decide
  rw [ae rfl] at hlen |-;have gX:=wq 2 (.inr ⟨rfl,.inr rfl⟩)
  ·skip
   obtain ⟨a,b,ha⟩:∃ a b,t.kids=[a,b]:=by
    match hl:t.kids,gX with
    | [a,b],_=>exact ⟨a,b,rfl⟩
   have h0:=iD 0 a (by rw [ha];rfl)
   have lg:(cv [a,b])[1]?=some [uT b]:=by rw [lr];rfl
   have Hp:(cv [a,b]).length=2:=by rw [rX];rfl
   have Ho:(((cv [a,b]).length:Int)==3)=false:=by rw [Hp];decide
   rw [ha] at hlen |-;rw [ha] at h0;simp only [List.map_cons,map_nil,getD_cons_zero,getD_cons_succ,aZ,length_cons,length_nil] at hlen |-;have Az:=eA b (by rw [ha];simp) ag;generalize tx a=x at *;generalize nU tx inl d b=y at *;clear eA iD ih;generalize cv [a,b]=rows at *;refine dT func200 ntmps200 ?_;refine jv ?_;refine GL.wk (Wk.freeze (i:=0) rfl rfl rfl (aX _)) ?_;refine GL.wk (Wk.freeze (i:=1) rfl rfl rfl (aX _)) ?_;refine GN (by simp only [om,nM];rfl) ?_;refine G ?_;refine aJ (.q 0 (aD 4 8 (.a 1 (.q 2 (.q 3 (.a 12 (.q 13 (.q 14 .nil)))))))) ?_;refine au ?_;refine oM [] h0 ?_;refine au ?_;refine az [] Az ?_;exact ax
 rw [ab ma] at hlen |-
 have g10:(kd==10)=false:=by simpa using ma
 by_cases pE:kd=11
 ·subst pE
  have f13:((11:Int)==13)=false:=by decide
  have f7:((11:Int)==7)=false:=by decide
  have f8:((11:Int)==8)=false:=by decide
  have f9:((11:Int)==9)=false:=by decide
  have f10:((11:Int)==10)=false:=by decide
  have f11:((11:Int)==11)=true:=by decide
  rw [ae rfl] at hlen |-;have gX:=wq 1 (.inl ⟨rfl,.inr (.inr (.inl rfl))⟩)
  obtain ⟨a,ha⟩:∃ a,t.kids=[a]:=by
   match hl:t.kids,gX with
   | [a],_=>exact ⟨a,rfl⟩
  have h0:=iD 0 a (by rw [ha];rfl);rw [ha] at hlen |-;rw [ha] at h0;simp only [List.map_cons,map_nil,getD_cons_zero,aZ,length_cons,length_nil] at hlen |-;generalize tx a=x at *;generalize cv [a]=rows at *;refine dT func200 ntmps200 ?_;refine jv ?_;refine GL.wk (Wk.freeze (i:=0) rfl rfl rfl (aX _)) ?_;refine GL.wk (Wk.freeze (i:=1) rfl rfl rfl (aX _)) ?_;refine GN (by simp only [om,nM];rfl) ?_;refine G ?_;refine kT [] h0 ?_;exact ax
 rw [ab pE] at hlen |-
 have g11:(kd==11)=false:=by simpa using pE
 by_cases o7:kd=12
 ·subst o7
  have f13:((12:Int)==13)=false:=by decide
  have f7:((12:Int)==7)=false:=by decide
  have f8:((12:Int)==8)=false:=by decide
  have f9:((12:Int)==9)=false:=by decide
  have f10:((12:Int)==10)=false:=by decide
  have f11:((12:Int)==11)=false:=by decide
  have f12:((12:Int)==12)=true:=by decide
  rw [ae rfl] at hlen |-;have gX:=wq 1 (.inl ⟨rfl,.inr (.inr (.inr rfl))⟩)
  obtain ⟨a,ha⟩:∃ a,t.kids=[a]:=by
   match hl:t.kids,gX with
   | [a],_=>exact ⟨a,rfl⟩
  have h0:=iD 0 a (by rw [ha];rfl);rw [ha] at hlen |-;rw [ha] at h0;simp only [List.map_cons,map_nil,getD_cons_zero,aZ,length_cons,length_nil] at hlen |-;generalize tx a=x at *;generalize cv [a]=rows at *;refine dT func200 ntmps200 ?_;refine jv ?_;refine GL.wk (Wk.freeze (i:=0) rfl rfl rfl (aX _)) ?_;refine GL.wk (Wk.freeze (i:=1) rfl rfl rfl (aX _)) ?_;refine GN (by simp only [om,nM];rfl) ?_;refine G ?_;refine kT [] h0 ?_;exact ax
 rw [ab o7] at hlen |-
 have g12:(kd==12)=false:=by simpa using o7
 clear eA iD ih;generalize tx t=x at *;refine dT func200 ntmps200 ?_;refine jv ?_;refine GL.wk (Wk.freeze (i:=0) rfl rfl rfl (aX _)) ?_;refine GL.wk (Wk.freeze (i:=1) rfl rfl rfl (aX _)) ?_;refine GN (by simp only [om,nM];rfl) ?_;refine G ?_;refine ju [] fg ?_;exact ax
end Go.Xg
namespace Go.Xg
open GV (U)
open Go.RowKit Go.Xw Go.Proofs Tryz
open Go.Xp (Tok Nd T Ar levels eI bK aO aC)
open Go.Sp (Src)
open Go.Im
attribute [local irreducible] GW GL GO YG GC GA ba bc
theorem QU (ex bk:FuncId) [he:aI prog ex] [hb:aI prog bk] (tx:T->ah) (inl:List ah->Nat->ah) (W:Wr ex bk tx inl) (p:Src) (trees:List T) (hlen:(nP tx inl p trees).length<=1099511627776) (YW:p.fns.length=trees.length)
  (hg:p.globals.length<=1099511627776) (ha:p.arrays.length<=1099511627776) (hf:p.fns.length<=1099511627776) (jX:∀ a∈p.arrays,-9223372036854775808<=a.size/\a.size<=9223372036854775807) (E9:∀ f∈p.fns,f.params.length<=1099511627776)
  (ht:∀ t∈trees,fo t=true/\ra t/\kU t<=1099511627776/\aO t+1<=1099511627776) :
  GF prog 118 [.agg (ao p),.sl 1 (cv trees),.v (jx ex),.v (jx bk)] [] (.v (sv (nP tx inl p trees))) []:=by
 have Y3:(p.globals.map fun s=>[GV.v (sv s)]).length=p.globals.length:=by simp
 have lG:(p.arrays.map aL).length=p.arrays.length:=by simp
 have Y2:(p.fns.map ay).length=p.fns.length:=by simp
 have l2:=DB (c8 tx inl) (p.fns.zip trees) (dC a1 (dC g1 [] p.globals) p.arrays);have l1:=DB a1 p.arrays (dC g1 [] p.globals);unfold nP at hlen |-;refine ai func118 ntmps118 ?_;refine GW.wk (Wk.DY (t:=9) (a:=none) (c:=0) 5 1 rfl) ?_;refine GW.range (p.globals.map fun s=>[GV.v (sv s)]).length (fun k fr Γ=>∃ acc m rows,fr=[U,.sl 1 (cv trees),.v (jx ex),.v (jx bk),.loc 0 0,U,U,U,U,.vec 1 m,U,U,U,U,U,U,U,U,strs p.globals,.v (ii ((p.globals.map fun s=>[GV.v (sv s)]).length:Int)),.v (ii (k:Nat)),U,U,U,U,U,U,U,U,U,U,U,U,U,U,U,U,U,U,U,U,U,U,U,U,U,U,U,U,U,U,U,U,U,U,U,U,U,U,U,U,U,U,U,U,U,U,U,U,U,U,U,U,U,U,U,U,U,U,U,U,U]/\Γ=[.box 34 (ao p),.vec 5 1 0 rows]/\rows.length=m/\rows=cx acc/\acc=dC g1 [] (p.globals.take k)) ?_ ag ?_ ?_ ?_
 ·exact ⟨_,_,Wk.aK av,[],0,[],rfl,rfl,rfl,rfl,rfl⟩
 ·rintro k _ _ ⟨acc,m,rows,rfl,rfl,_⟩;exact dI
 ·rintro k _ _ ar ⟨acc,m,rows,rfl,rfl,hm,bG,lY⟩;rw [Y3] at ar
  have de:p.globals[k]?=some p.globals[k]:=by simp [ar]
  have ux:(p.globals.map fun s=>[GV.v (sv s)])[k]?=some [.v (sv p.globals[k])]:=by rw [aV,de];rfl
  have bB:dC g1 [] (p.globals.take (k+1))=acc++g1 p.globals[k]:=by rw [cq,de,lY];exact yj g1 _ _ _
  have hle:=yk g1 p.globals (k+1) [];rw [bB,aZ] at hle
  have Y4:rows.length=acc.length:=by rw [bG];simp [cx]
  generalize p.globals[k]=z at *
  have hz:(g1 z).length=z.length+6:=by unfold g1;simp
  refine G ?_;refine GL.Du (str:=g1 z) rfl rfl rfl bf rfl ag ?_;refine cm ?_;refine G ?_;exact ⟨rfl,rfl,_,_,Wk.aK av,acc++g1 z,_,_,rfl,rfl,by rw [aZ,hm];simp [cx],by rw [bG];exact (vf acc (g1 z)).symm,bB.symm⟩
 ·rintro _ _ ⟨acc,m,rows,rfl,rfl,hm,bG,lY⟩;rw [Y3,cy] at lY;rw [<-lY] at hlen l1 l2 |-;refine be ?_;refine G ?_;refine GW.range (p.arrays.map aL).length (fun k fr Γ=>∃ rI m rows,fr=[U,.sl 1 (cv trees),.v (jx ex),.v (jx bk),.loc 0 0,U,U,U,U,.vec 1 m,U,U,U,U,U,U,U,U,U,U,U,U,U,U,U,U,U,U,U,U,U,.sl 2 (p.arrays.map aL),.v (ii ((p.arrays.map aL).length:Int)),.v (ii (k:Nat)),U,U,U,U,U,U,U,U,U,U,U,U,U,U,U,U,U,U,U,U,U,U,U,U,U,U,U,U,U,U,U,U,U,U,U,U,U,U,U,U,U,U,U,U,U,U,U,U]/\Γ=[.box 34 (ao p),.vec 5 1 0 rows]/\rows.length=m/\rows=cx rI/\rI=dC a1 acc (p.arrays.take k)) ?_ ag ?_ ?_ ?_
  ·exact ⟨_,_,Wk.aK av,acc,m,rows,rfl,rfl,hm,bG,rfl⟩
  ·rintro k _ _ ⟨rI,m,rows,rfl,rfl,_⟩;exact dI
  ·clear hm bG;rintro k _ _ ar ⟨rI,m,rows,rfl,rfl,hm,bG,FU⟩;rw [lG] at ar
   have de:p.arrays[k]?=some p.arrays[k]:=by simp [ar]
   have ux:(p.arrays.map aL)[k]?=some (aL p.arrays[k]):=by rw [aV,de];rfl
   have bB:dC a1 acc (p.arrays.take (k+1))=rI++a1 p.arrays[k]:=by rw [cq,de,FU];exact yj a1 _ _ _
   have hle:=yk a1 p.arrays (k+1) acc;rw [bB,aZ] at hle
   have Y4:rows.length=rI.length:=by rw [bG];simp [cx]
   have yR:=jX p.arrays[k] (getElem_mem ar);generalize p.arrays[k]=z at *;have hit:=MH z.size yR.1 yR.2;have qR:=yV yR
   have hz:(a1 z).length=z.name.length+(oU z.size).length+8:=by unfold a1;simp;omega
   unfold aL at ux;refine G ?_;refine aJ (aD 0 7 (.a 7 (.q 8 (.q 9 (.a 10 (.q 11 .nil)))))) ?_;refine au ?_;refine az [] hit ?_;refine OA rfl rfl (GL.Du (str:=a1 z) rfl rfl rfl bf rfl ag (GL.nil (be (ft.mk (by repeat (first | exact jJ.n | (apply jJ.w;(· decide +kernel)) | (apply jJ.y;(· first | (apply YQ.t;(· exact rfl);(· exact rfl);(· (first | exact wV | (apply K.idx;first | exact YG.idxV rfl rfl rfl bf ag | exact YG.eB 0 rfl rfl rfl di | exact YG.eB 1 rfl rfl rfl di | exact YG.eB 2 rfl rfl rfl di | exact YG.eB 3 rfl rfl rfl di | exact YG.eB 4 rfl rfl rfl di | exact YG.eB 5 rfl rfl rfl di | exact YG.eB 6 rfl rfl rfl di) | exact wW | exact YG.wN 1 rfl rfl bf bf | exact YG.mv | exact YG.xT | (apply K.bin;first | exact YG.go rfl | exact YG.yh rfl rfl ag | exact YG.Cu rfl rfl | exact YG.CZ rfl rfl | exact YG.Gs rfl rfl | exact YG.HL rfl rfl | exact YG.cat rfl rfl ag | exact YG.cat rfl rfl (by simp only [aZ,length_cons,length_nil];omega) | exact YG.dP rfl rfl ag | exact YG.add rfl rfl ag | exact YG.sub rfl rfl ag | exact YG.mul rfl rfl ag | exact YG.Ij rfl rfl ag | exact YG.quo rfl rfl ag | exact YG.rem rfl rfl ag | exact YG.xv rfl rfl) | exact u6 | exact u5 | exact tH | exact rq | exact sQ | (apply K.idx;first | exact YG.xl rfl rfl cM | exact YG.ny rfl rfl cM rfl | exact YG.ny rfl rfl cM ag | exact YG.yT rfl rfl ag) | exact YG.ext rfl rfl | exact YG.go rfl | (apply K.Pk;first | exact YG.Ii rfl rfl rfl ag | exact YG.Ih rfl rfl ag | exact YG.Ig rfl rfl ag | exact YG.zi 1 rfl rfl rfl bf) | exact YG.uH rfl rfl cM | exact YG.idxSC rfl rfl cM rfl | exact sR | exact YG.build rfl | exact YG.neg rfl ag | exact YG.uk rfl rfl | exact YG.Cr rfl (by first | rfl | exact IntWalk.i64_in _ ag | exact IntWalk.u8_in _ ag | assumption) | exact YG.str rfl bf))) | (apply YQ.t;(· exact rfl);(· apply DJ;(· exact rfl);(· first | exact rfl | assumption));(· (first | exact wV | (apply K.idx;first | exact YG.idxV rfl rfl rfl bf ag | exact YG.eB 0 rfl rfl rfl di | exact YG.eB 1 rfl rfl rfl di | exact YG.eB 2 rfl rfl rfl di | exact YG.eB 3 rfl rfl rfl di | exact YG.eB 4 rfl rfl rfl di | exact YG.eB 5 rfl rfl rfl di | exact YG.eB 6 rfl rfl rfl di) | exact wW | exact YG.wN 1 rfl rfl bf bf | exact YG.mv | exact YG.xT | (apply K.bin;first | exact YG.go rfl | exact YG.yh rfl rfl ag | exact YG.Cu rfl rfl | exact YG.CZ rfl rfl | exact YG.Gs rfl rfl | exact YG.HL rfl rfl | exact YG.cat rfl rfl ag | exact YG.cat rfl rfl (by simp only [aZ,length_cons,length_nil];omega) | exact YG.dP rfl rfl ag | exact YG.add rfl rfl ag | exact YG.sub rfl rfl ag | exact YG.mul rfl rfl ag | exact YG.Ij rfl rfl ag | exact YG.quo rfl rfl ag | exact YG.rem rfl rfl ag | exact YG.xv rfl rfl) | exact u6 | exact u5 | exact tH | exact rq | exact sQ | (apply K.idx;first | exact YG.xl rfl rfl cM | exact YG.ny rfl rfl cM rfl | exact YG.ny rfl rfl cM ag | exact YG.yT rfl rfl ag) | exact YG.ext rfl rfl | exact YG.go rfl | (apply K.Pk;first | exact YG.Ii rfl rfl rfl ag | exact YG.Ih rfl rfl ag | exact YG.Ig rfl rfl ag | exact YG.zi 1 rfl rfl rfl bf) | exact YG.uH rfl rfl cM | exact YG.idxSC rfl rfl cM rfl | exact sR | exact YG.build rfl | exact YG.neg rfl ag | exact YG.uk rfl rfl | exact YG.Cr rfl (by first | rfl | exact IntWalk.i64_in _ ag | exact IntWalk.u8_in _ ag | assumption) | exact YG.str rfl bf))) | (apply YQ.f;(· exact rfl);(· apply G2;(· exact rfl);(· first | exact rfl | assumption))))))) ?_))))
   refine PF ?_;refine bj ?_;exact ⟨rfl,rfl,_,_,(Wk.cut (n:=2) (aX _) rfl).trans (Wk.aK av),rI++a1 z,_,_,rfl,rfl,by rw [aZ,hm];simp [cx],by rw [bG];exact (vf rI (a1 z)).symm,bB.symm⟩
  ·clear hm bG;rintro _ _ ⟨rI,m,rows,rfl,rfl,hm,bG,FU⟩;rw [lG,cy] at FU;rw [<-FU] at hlen l2 |-
   have xk:∀ (k:Nat) (f:Go.Sp.Fn),p.fns[k]?=some f->f.params.length<=1099511627776:=fun k f h=>E9 f (bm h)
   refine be ?_;refine G ?_;refine GW.range (p.fns.map ay).length (fun k fr Γ=>∃ vB m rows,fr=[U,.sl 1 (cv trees),U,U,U,U,U,U,U,.vec 1 m,U,U,U,U,.loc 2 0,U,U,U,U,U,U,U,U,U,U,U,U,U,U,U,U,U,U,U,U,U,U,U,U,U,U,U,U,U,U,U,U,U,U,U,U,U,U,.sl 3 (p.fns.map ay),.v (ii ((p.fns.map ay).length:Int)),.v (ii (k:Nat)),U,U,U,U,U,U,U,U,U,U,U,U,U,U,U,U,U,U,U,U,U,U,U,U,U,U]/\Γ=[.box 34 (ao p),.vec 5 1 0 rows,.box 182 [.v (jx ex),.v (jx bk)]]/\rows.length=m/\rows=cx vB/\vB=dC (c8 tx inl) rI ((p.fns.zip trees).take k)) ?_ ag ?_ ?_ ?_
   ·exact ⟨_,_,Wk.aK av,rI,m,rows,rfl,rfl,hm,bG,rfl⟩
   ·rintro k _ _ ⟨vB,m,rows,rfl,rfl,_⟩;exact dI
   ·clear hm bG;rintro k _ _ ar ⟨vB,m,rows,rfl,rfl,hm,bG,FV⟩;rw [Y2] at ar
    have nN:k < trees.length:=by omega
    have de:p.fns[k]?=some p.fns[k]:=by simp [ar]
    have x7:trees[k]?=some trees[k]:=by simp [nN]
    have ux:(p.fns.map ay)[k]?=some (ay p.fns[k]):=by rw [aV,de];rfl
    have aaS:=wK x7
    have hkz:(p.fns.zip trees)[k]?=some (p.fns[k],trees[k]):=by rw [List.getElem?_zip_eq_some];exact ⟨de,x7⟩
    have bB:dC (c8 tx inl) rI ((p.fns.zip trees).take (k+1))=vB++c8 tx inl (p.fns[k],trees[k]):=by rw [cq,hkz,FV];exact yj (c8 tx inl) _ _ _
    have hle:=yk (c8 tx inl) (p.fns.zip trees) (k+1) rI;rw [bB,aZ] at hle
    have Y4:rows.length=vB.length:=by rw [bG];simp [cx]
    obtain ⟨q1,q2,q3,q4⟩:=ht trees[k] (getElem_mem nN);have hpk:=xk k _ de;generalize p.fns[k]=f at *;generalize trees[k]=t at *
    have hz:(c8 tx inl (f,t)).length=f.name.length+(bK f.params).length+(nU tx inl 0 t).length+9:=by unfold c8;simp;omega
    have hJ:=MI f.params ag hpk
    have LH:∀ (l:List T) (a:T),a∈l->aO a<=aC l:=by
     intro l
     induction l with
     | nil=>intro a h;cases h
     | cons b l ih2 =>
      intro a h;rw [aC]
      rcases ei h with rfl | h
      ·omega
      ·have:=ih2 a h;omega
    have hB:=Al ex bk tx inl W t 0 ag (by have:=Go.Xp.bZ t.kids;have:=Go.Xp.eO t;omega) ag fun a NW V1=>by
     have I:=LH _ a NW;have F:=Go.Xp.eO t;have h3:=u9 NW;have h4:=pR t;rw [yW,aE,qf,fE] at q1;rw [rS] at q2;exact Jh ex bk tx inl W _ a (aH _) (q1.2 a NW) (ku q2.2 NW) ag (0+1) ag V1
    unfold ay at ux;refine G ?_;refine aJ (aD 0 7 (aD 10 5 (.a 7 (.q 8 (.q 9 (.a 15 (.q 16 (.q 17 (.a 18 (.q 19 .nil)))))))))) ?_;refine au ?_;refine az [] hJ ?_;refine az [] hB ?_;refine OA rfl rfl (GL.Du (str:=c8 tx inl (f,t)) rfl rfl rfl bf rfl ag (GL.nil (be (ft.mk (by repeat (first | exact jJ.n | (apply jJ.w;(· decide +kernel)) | (apply jJ.y;(· first | (apply YQ.t;(· exact rfl);(· exact rfl);(· (first | exact wV | (apply K.idx;first | exact YG.idxV rfl rfl rfl bf ag | exact YG.eB 0 rfl rfl rfl di | exact YG.eB 1 rfl rfl rfl di | exact YG.eB 2 rfl rfl rfl di | exact YG.eB 3 rfl rfl rfl di | exact YG.eB 4 rfl rfl rfl di | exact YG.eB 5 rfl rfl rfl di | exact YG.eB 6 rfl rfl rfl di) | exact wW | exact YG.wN 1 rfl rfl bf bf | exact YG.mv | exact YG.xT | (apply K.bin;first | exact YG.go rfl | exact YG.yh rfl rfl ag | exact YG.Cu rfl rfl | exact YG.CZ rfl rfl | exact YG.Gs rfl rfl | exact YG.HL rfl rfl | exact YG.cat rfl rfl ag | exact YG.cat rfl rfl (by simp only [aZ,length_cons,length_nil];omega) | exact YG.dP rfl rfl ag | exact YG.add rfl rfl ag | exact YG.sub rfl rfl ag | exact YG.mul rfl rfl ag | exact YG.Ij rfl rfl ag | exact YG.quo rfl rfl ag | exact YG.rem rfl rfl ag | exact YG.xv rfl rfl) | exact u6 | exact u5 | exact tH | exact rq | exact sQ | (apply K.idx;first | exact YG.xl rfl rfl cM | exact YG.ny rfl rfl cM rfl | exact YG.ny rfl rfl cM ag | exact YG.yT rfl rfl ag) | exact YG.ext rfl rfl | exact YG.go rfl | (apply K.Pk;first | exact YG.Ii rfl rfl rfl ag | exact YG.Ih rfl rfl ag | exact YG.Ig rfl rfl ag | exact YG.zi 1 rfl rfl rfl bf) | exact YG.uH rfl rfl cM | exact YG.idxSC rfl rfl cM rfl | exact sR | exact YG.build rfl | exact YG.neg rfl ag | exact YG.uk rfl rfl | exact YG.Cr rfl (by first | rfl | exact IntWalk.i64_in _ ag | exact IntWalk.u8_in _ ag | assumption) | exact YG.str rfl bf))) | (apply YQ.t;(· exact rfl);(· apply DJ;(· exact rfl);(· first | exact rfl | assumption));(· (first | exact wV | (apply K.idx;first | exact YG.idxV rfl rfl rfl bf ag | exact YG.eB 0 rfl rfl rfl di | exact YG.eB 1 rfl rfl rfl di | exact YG.eB 2 rfl rfl rfl di | exact YG.eB 3 rfl rfl rfl di | exact YG.eB 4 rfl rfl rfl di | exact YG.eB 5 rfl rfl rfl di | exact YG.eB 6 rfl rfl rfl di) | exact wW | exact YG.wN 1 rfl rfl bf bf | exact YG.mv | exact YG.xT | (apply K.bin;first | exact YG.go rfl | exact YG.yh rfl rfl ag | exact YG.Cu rfl rfl | exact YG.CZ rfl rfl | exact YG.Gs rfl rfl | exact YG.HL rfl rfl | exact YG.cat rfl rfl ag | exact YG.cat rfl rfl (by simp only [aZ,length_cons,length_nil];omega) | exact YG.dP rfl rfl ag | exact YG.add rfl rfl ag | exact YG.sub rfl rfl ag | exact YG.mul rfl rfl ag | exact YG.Ij rfl rfl ag | exact YG.quo rfl rfl ag | exact YG.rem rfl rfl ag | exact YG.xv rfl rfl) | exact u6 | exact u5 | exact tH | exact rq | exact sQ | (apply K.idx;first | exact YG.xl rfl rfl cM | exact YG.ny rfl rfl cM rfl | exact YG.ny rfl rfl cM ag | exact YG.yT rfl rfl ag) | exact YG.ext rfl rfl | exact YG.go rfl | (apply K.Pk;first | exact YG.Ii rfl rfl rfl ag | exact YG.Ih rfl rfl ag | exact YG.Ig rfl rfl ag | exact YG.zi 1 rfl rfl rfl bf) | exact YG.uH rfl rfl cM | exact YG.idxSC rfl rfl cM rfl | exact sR | exact YG.build rfl | exact YG.neg rfl ag | exact YG.uk rfl rfl | exact YG.Cr rfl (by first | rfl | exact IntWalk.i64_in _ ag | exact IntWalk.u8_in _ ag | assumption) | exact YG.str rfl bf))) | (apply YQ.f;(· exact rfl);(· apply G2;(· exact rfl);(· first | exact rfl | assumption))))))) ?_))))
    refine PF ?_;refine bj ?_;exact ⟨rfl,rfl,_,_,(Wk.cut (n:=3) (aX _) rfl).trans (Wk.aK av),vB++c8 tx inl (f,t),_,_,rfl,rfl,by rw [aZ,hm];simp [cx],by rw [bG];exact (vf vB _).symm,bB.symm⟩
   ·clear hm bG;rintro _ _ ⟨vB,m,rows,rfl,rfl,hm,bG,FV⟩;rw [Y2,show (p.fns.zip trees).take p.fns.length=p.fns.zip trees from jS (by simp;omega)] at FV;rw [<-FV] at hlen |-;refine be ?_;refine GW.wk (Wk.ki (t:=9) rfl rfl rfl hm) ?_
    have aaI:rows=vB.map fun c=>[.v (.int .u8 (c.toNat:Int))]:=bG
    exact ax
end Go.Xg
namespace Go.Xg
open GV (U)
open Go.RowKit Go.Xw Go.Proofs Tryz
open Go.Im (fQ sy sA ui mG oc)
attribute [local irreducible] GW GL GO YG GC GA ba bc
theorem Jj (a b:List ah) (ha:a.length<=1099511627776) (hb:b.length<=1099511627776):GF prog 123 [strs a,strs b] [] (.v (.bool (fQ (fun x y=>x==y) a b))) []:=by
 have lG:(a.map fun s=>[GV.v (sv s)]).length=a.length:=by simp
 have rA:(b.map fun s=>[GV.v (sv s)]).length=b.length:=by simp
 by_cases hl:a.length=b.length
 ·have hd:(((a.map fun s=>[GV.v (sv s)]).length:Int) != ((b.map fun s=>[GV.v (sv s)]).length:Int))=false:=by rw [lG,rA,hl];simp
  refine ai func123 ntmps123 ?_;refine GW.range (a.map fun s=>[GV.v (sv s)]).length (fun k fr Γ=>fr=[strs a,strs b,U,U,U,U,U,U,U,U,U,U,.v (ii ((a.map fun s=>[GV.v (sv s)]).length:Int)),.v (ii (k:Nat)),U,U,U,U,U,U,U,U,U,U,U,U]/\Γ=[]/\ui (fun x y=>x==y) a b k) ?_ ag ?_ ?_ ?_
  ·exact ⟨_,_,Wk.aK av,rfl,rfl,fun j x y h=>by omega⟩
  ·exact ig
  ·rintro k _ _ ar ⟨rfl,rfl,lM⟩;rw [lG] at ar
   have mK:a[k]?=some a[k]:=by simp [ar]
   have qS:k < b.length:=by omega
   have ov:b[k]?=some b[k]:=by simp [qS]
   have Hm:(a.map fun s=>[GV.v (sv s)])[k]?=some [GV.v (sv a[k])]:=by rw [aV,mK];rfl
   have Hn:(b.map fun s=>[GV.v (sv s)])[k]?=some [GV.v (sv b[k])]:=by rw [aV,ov];rfl
   generalize a[k]=x at *;generalize b[k]=y at *
   cases kH:(x==y) with
   | true =>
    have hn:(x != y)=false:=by simp only [bne,kH];rfl
    have bW:(!(x==y))=false:=by rw [kH];rfl
    refine G ?_;refine aJ (aD 0 9 .nil) ?_;refine bj ?_;exact ⟨rfl,rfl,_,_,Wk.aK av,rfl,rfl,mG mK ov lM kH⟩
   | false =>
    have hn:(x != y)=true:=by simp only [bne,kH];rfl
    have bW:(!(x==y))=true:=by rw [kH];rfl
    rw [sA mK ov (p:=fun x y=>x==y) kH];refine G ?_;refine aJ (aD 0 9 .nil) ?_;refine au ?_;exact ax
  ·rintro _ _ ⟨rfl,rfl,lM⟩;rw [lG] at lM;rw [oc hl lM];exact ax
 ·have hd:(((a.map fun s=>[GV.v (sv s)]).length:Int) != ((b.map fun s=>[GV.v (sv s)]).length:Int))=true:=by rw [lG,rA];simpa using by omega
  rw [sy hl];refine ai func123 ntmps123 ?_;exact ak
theorem Tv (a b:List Int) (ha:a.length<=1099511627776) (hb:b.length<=1099511627776):GF prog 171 [ints a,ints b] [] (.v (.bool (fQ (fun x y=>x==y) a b))) []:=by
 have lG:(a.map fun s=>[GV.v (ii s)]).length=a.length:=by simp
 have rA:(b.map fun s=>[GV.v (ii s)]).length=b.length:=by simp
 by_cases hl:a.length=b.length
 ·have hd:(((a.map fun s=>[GV.v (ii s)]).length:Int) != ((b.map fun s=>[GV.v (ii s)]).length:Int))=false:=by rw [lG,rA,hl];simp
  refine ai func171 ntmps171 ?_;refine GW.range (a.map fun s=>[GV.v (ii s)]).length (fun k fr Γ=>fr=[ints a,ints b,U,U,U,U,U,U,U,U,U,U,.v (ii ((a.map fun s=>[GV.v (ii s)]).length:Int)),.v (ii (k:Nat)),U,U,U,U,U,U,U,U,U,U,U,U]/\Γ=[]/\ui (fun x y=>x==y) a b k) ?_ ag ?_ ?_ ?_
  ·exact ⟨_,_,Wk.aK av,rfl,rfl,fun j x y h=>by omega⟩
  ·exact ig
  ·rintro k _ _ ar ⟨rfl,rfl,lM⟩;rw [lG] at ar
   have mK:a[k]?=some a[k]:=by simp [ar]
   have qS:k < b.length:=by omega
   have ov:b[k]?=some b[k]:=by simp [qS]
   have Hm:(a.map fun s=>[GV.v (ii s)])[k]?=some [GV.v (ii a[k])]:=by rw [aV,mK];rfl
   have Hn:(b.map fun s=>[GV.v (ii s)])[k]?=some [GV.v (ii b[k])]:=by rw [aV,ov];rfl
   generalize a[k]=x at *;generalize b[k]=y at *
   cases kH:(x==y) with
   | true =>
    have hn:(x != y)=false:=by simp only [bne,kH];rfl
    have bW:(!(x==y))=false:=by rw [kH];rfl
    refine G ?_;refine aJ (aD 0 9 .nil) ?_;refine bj ?_;exact ⟨rfl,rfl,_,_,Wk.aK av,rfl,rfl,mG mK ov lM kH⟩
   | false =>
    have hn:(x != y)=true:=by simp only [bne,kH];rfl
    have bW:(!(x==y))=true:=by rw [kH];rfl
    rw [sA mK ov (p:=fun x y=>x==y) kH];refine G ?_;refine aJ (aD 0 9 .nil) ?_;refine au ?_;exact ax
  ·rintro _ _ ⟨rfl,rfl,lM⟩;rw [lG] at lM;rw [oc hl lM];exact ax
 ·have hd:(((a.map fun s=>[GV.v (ii s)]).length:Int) != ((b.map fun s=>[GV.v (ii s)]).length:Int))=true:=by rw [lG,rA];simpa using by omega
  rw [sy hl];refine ai func171 ntmps171 ?_;exact ak
end Go.Xg
namespace Go.Xg
open GV (U)
open Go.RowKit Go.Xw Go.Proofs Tryz
open Go.Xp (Nd)
open Go.Im (sn lQ fQ sy sA ui mG oc)
attribute [local irreducible] GW GL GO YG GC GA ba bc
theorem Rp (a b:Go.Sp.Fn) (ha:a.params.length<=1099511627776) (hb:b.params.length<=1099511627776):GF prog 126 [.agg (ay a),.agg (ay b)] [] (.v (.bool (sn a b))) []:=by
 have he:=Jj a.params b.params ha hb;unfold sn ay
 cases I:(a.name==b.name) with
 | false =>
  refine ai func126 ntmps126 ?_;exact ak
 | true =>
  cases F:fQ (fun x y=>x==y) a.params b.params with
  | false =>
   rw [F] at he;refine ai func126 ntmps126 ?_;refine D [] he ?_;exact ak
  | true =>
   rw [F] at he;refine ai func126 ntmps126 ?_;refine D [] he ?_;exact ak
theorem Mk (a b:Nd) (ha:a.kids.length<=1099511627776) (hb:b.kids.length<=1099511627776):GF prog 128 [.agg (aB a),.agg (aB b)] [] (.v (.bool (lQ a b))) []:=by
 have he:=Tv a.kids b.kids ha hb;unfold lQ aB;generalize fQ (fun x y=>x==y) a.kids b.kids=q at *
 cases I:(a.kind==b.kind) with
 | false =>
  refine ai func128 ntmps128 ?_;exact ak
 | true =>
  cases F:(a.n==b.n) with
  | false =>
   refine ai func128 ntmps128 ?_;exact ak
  | true =>
   cases h3:(a.s==b.s) with
   | false =>
    refine ai func128 ntmps128 ?_;exact ak
   | true =>
    refine ai func128 ntmps128 ?_;refine D [] he ?_;exact ak
theorem ID (a b:List Go.Sp.Fn) (ha:a.length<=1099511627776) (hb:b.length<=1099511627776) (ka:∀ x∈a,x.params.length<=1099511627776) (kb:∀ x∈b,x.params.length<=1099511627776) :
  GF prog 125 [.sl 3 (a.map ay),.sl 3 (b.map ay),.v (.func (.func 126) #[] #[])] [] (.v (.bool (fQ sn a b))) []:=by
 have lG:(a.map ay).length=a.length:=by simp
 have rA:(b.map ay).length=b.length:=by simp
 by_cases hl:a.length=b.length
 ·have hd:(((a.map ay).length:Int) != ((b.map ay).length:Int))=false:=by rw [lG,rA,hl];simp
  refine ai func125 ntmps125 ?_;refine GW.range (a.map ay).length (fun k fr Γ=>fr=[U,.sl 3 (b.map ay),.v (.func (.func 126) #[] #[]),U,U,U,U,U,U,U,U,U,U,U,U,.sl 3 (a.map ay),.v (ii ((a.map ay).length:Int)),.v (ii (k:Nat)),U,U,U,U,U,U,U,U,U,U,U,U,U,U]/\Γ=[]/\ui sn a b k) ?_ ag ?_ ?_ ?_
  ·exact ⟨_,_,Wk.aK av,rfl,rfl,fun j x y h=>by omega⟩
  ·exact ig
  ·rintro k _ _ ar ⟨rfl,rfl,lM⟩;rw [lG] at ar
   have mK:a[k]?=some a[k]:=by simp [ar]
   have qS:k < b.length:=by omega
   have ov:b[k]?=some b[k]:=by simp [qS]
   have Hm:(a.map ay)[k]?=some (ay a[k]):=by rw [aV,mK];rfl
   have Hn:(b.map ay)[k]?=some (ay b[k]):=by rw [aV,ov];rfl
   have hs:=Rp a[k] b[k] (ka _ (getElem_mem ar)) (kb _ (getElem_mem qS));generalize a[k]=x at *;generalize b[k]=y at *;unfold ay at Hm Hn hs
   cases kH:sn x y with
   | true =>
    rw [kH] at hs;refine G ?_;refine ju [] hs ?_;refine G ?_;exact ⟨rfl,rfl,_,_,(Wk.cut (n:=0) (aH _) rfl).trans (Wk.aK av),rfl,rfl,mG mK ov lM kH⟩
   | false =>
    rw [kH] at hs;rw [sA mK ov (p:=sn) kH];refine G ?_;refine ju [] hs ?_;exact ax
  ·rintro _ _ ⟨rfl,rfl,lM⟩;rw [lG] at lM;rw [oc hl lM];exact ax
 ·have hd:(((a.map ay).length:Int) != ((b.map ay).length:Int))=true:=by rw [lG,rA];simpa using by omega
  rw [sy hl];refine ai func125 ntmps125 ?_;exact ak
theorem IF (a b:List Nd) (ha:a.length<=1099511627776) (hb:b.length<=1099511627776) (ka:∀ x∈a,x.kids.length<=1099511627776) (kb:∀ x∈b,x.kids.length<=1099511627776) :
  GF prog 127 [.sl 5 (a.map aB),.sl 5 (b.map aB),.v (.func (.func 128) #[] #[])] [] (.v (.bool (fQ lQ a b))) []:=by
 have lG:(a.map aB).length=a.length:=by simp
 have rA:(b.map aB).length=b.length:=by simp
 by_cases hl:a.length=b.length
 ·have hd:(((a.map aB).length:Int) != ((b.map aB).length:Int))=false:=by rw [lG,rA,hl];simp
  refine ai func127 ntmps127 ?_;refine GW.range (a.map aB).length (fun k fr Γ=>fr=[U,.sl 5 (b.map aB),.v (.func (.func 128) #[] #[]),U,U,U,U,U,U,U,U,U,U,U,U,.sl 5 (a.map aB),.v (ii ((a.map aB).length:Int)),.v (ii (k:Nat)),U,U,U,U,U,U,U,U,U,U,U,U,U,U]/\Γ=[]/\ui lQ a b k) ?_ ag ?_ ?_ ?_
  ·exact ⟨_,_,Wk.aK av,rfl,rfl,fun j x y h=>by omega⟩
  ·exact ig
  ·rintro k _ _ ar ⟨rfl,rfl,lM⟩;rw [lG] at ar
   have mK:a[k]?=some a[k]:=by simp [ar]
   have qS:k < b.length:=by omega
   have ov:b[k]?=some b[k]:=by simp [qS]
   have Hm:(a.map aB)[k]?=some (aB a[k]):=by rw [aV,mK];rfl
   have Hn:(b.map aB)[k]?=some (aB b[k]):=by rw [aV,ov];rfl
   have hs:=Mk a[k] b[k] (ka _ (getElem_mem ar)) (kb _ (getElem_mem qS));generalize a[k]=x at *;generalize b[k]=y at *;unfold aB at Hm Hn hs
   cases kH:lQ x y with
   | true =>
    rw [kH] at hs;refine G ?_;refine ju [] hs ?_;refine G ?_;exact ⟨rfl,rfl,_,_,(Wk.cut (n:=0) (aH _) rfl).trans (Wk.aK av),rfl,rfl,mG mK ov lM kH⟩
   | false =>
    rw [kH] at hs;rw [sA mK ov (p:=lQ) kH];refine G ?_;refine ju [] hs ?_;exact ax
  ·rintro _ _ ⟨rfl,rfl,lM⟩;rw [lG] at lM;rw [oc hl lM];exact ax
 ·have hd:(((a.map aB).length:Int) != ((b.map aB).length:Int))=true:=by rw [lG,rA];simpa using by omega
  rw [sy hl];refine ai func127 ntmps127 ?_;exact ak
end Go.Xg
namespace Go.Xg
open GV (U)
open Go.RowKit Go.Xw Go.Proofs Tryz
open Go.Xp (Nd Ar)
open Go.Im (Aq fQ sy sA ui mG oc)
theorem XK (w:World) (s s':ah) (n n':Int):(Op.equalIn 10000 78 (.agg #[sv s,ii n]) (.agg #[sv s',ii n'])).run prog w=.ok ((s==s')&&(n==n')) w:=by
 have hf:(prog.fieldsOf 78).toList=[(prog.fieldsOf 78)[0]!,(prog.fieldsOf 78)[1]!]:=by kernel_rfl
 have a0:((prog.fieldsOf 78)[0]!).type=9:=by kernel_rfl
 have a1:((prog.fieldsOf 78)[1]!).type=3:=by kernel_rfl
 have b0:((prog.fieldsOf 78)[0]!).offset=0:=by kernel_rfl
 have b1:((prog.fieldsOf 78)[1]!).offset=1:=by kernel_rfl
 have c0:((prog.fieldsOf 78)[0]!).name = "Name" := by kernel_rfl
 have c1:((prog.fieldsOf 78)[1]!).name = "Size" := by kernel_rfl
 rw [show (10000:Nat)=9999+1 from rfl,run_equalIn_agg w 9999 _ _ _ (by kernel_rfl) (by kernel_rfl),hf];generalize (prog.fieldsOf 78)[0]! = f0 at *;generalize (prog.fieldsOf 78)[1]! = c8 at *
 have hs:prog.underlying 9=some .string:=by kernel_rfl
 have hi:prog.underlying 3=some (.int .i64):=by kernel_rfl
 have p0:∀ (a:ah) (b:Int) w,(part f0.type #[sv a,ii b] f0.offset).run prog w=.ok (sv a) w:=fun a b w=>by
  rw [a0,b0];rfl
 have p1:∀ (a:ah) (b:Int) w,(part c8.type #[sv a,ii b] c8.offset).run prog w=.ok (ii b) w:=fun a b w=>by
  rw [a1,b1];rfl
 have e0:∀ w,(Op.equalIn 9999 f0.type (sv s) (sv s')).run prog w=.ok (s==s') w:=fun w=>by
  rw [a0,show (9999:Nat)=9998+1 from rfl];have:=run_equalIn_string (P:=prog) w 9998 9 ⟨s.toArray⟩ ⟨s'.toArray⟩ hs;rw [show sv s=.string ⟨s.toArray⟩ from rfl,show sv s'=.string ⟨s'.toArray⟩ from rfl,this];simp [toList_mk]
 have e1:∀ w,(Op.equalIn 9999 c8.type (ii n) (ii n')).run prog w=.ok (n==n') w:=fun w=>by
  rw [a1,show (9999:Nat)=9998+1 from rfl];exact run_equalIn_int (P:=prog) w 9998 3 .i64 .i64 n n' hi
 have n0:f0.name ≠ "_" := by rw [c0];decide
 have n1:c8.name ≠ "_" := by rw [c1];decide
 rw [Op.eqFields,ae n0];simp only [Sem.run_bind,p0,Result.andThen_ok,e0]
 cases s==s' with
 | false=>simp
 | true =>
  simp only [Bool.not_true,Bool.false_eq_true,if_false,Bool.true_and];rw [Op.eqFields,ae n1];simp only [Sem.run_bind,p1,Result.andThen_ok,e1]
  cases n==n' with
  | false=>simp
  | true=>simp [Op.eqFields]
theorem YG.WJ {fr:List GV} {Γ:List Ob} {x y:Operand} {t':TypeId} {s s':ah} {n n':Int} (hx:a6 fr x=.agg [.v (sv s),.v (ii n)]) (hy:a6 fr y=.agg [.v (sv s'),.v (ii n')]) :
  YG prog (.binOp .neq 78 x y t') fr Γ (.v (.bool (!((s==s')&&(n==n'))))):=fun B K β w l hI hF=>by
 have two:∀ {v:Value} {a b:Value},Rel K β v (.agg [.v a,.v b])->v=.agg #[a,b]:=fun {v a b} h=>by
  cases h with
  | agg vs _ hl hh =>
   match vs,hl with
   | [u1,u2],_ =>
    have I:=Rel.gy (hh 0 u1 (.v a) rfl rfl);have F:=Rel.gy (hh 1 u2 (.v b) rfl rfl);rw [I,F]
 have sH:=two (by rw [<-hx];exact hF.ev x);have Wm:=two (by rw [<-hy];exact hF.ev y);refine ⟨_,fun d ty pos af=>?_,.v _⟩;have hg:=run_eqGuard_agg (P:=prog) w .neq 78 x y #[sv s,ii n] #[sv s',ii n'] (by kernel_rfl);have hn:=run_neq_struct (P:=prog) w 78 #[sv s,ii n] #[sv s',ii n'];rw [XK,Result.andThen_ok] at hn;simp [execOp,sH,Wm,hg,hn]
attribute [local irreducible] GW GL GO YG GC GA ba bc
theorem Tu (a b:List Ar) (ha:a.length<=1099511627776) (hb:b.length<=1099511627776):GF prog 124 [(.sl 2 (a.map fun s=>aL s)),(.sl 2 (b.map fun s=>aL s))] [] (.v (.bool (fQ Aq a b))) []:=by
 have lG:(a.map fun s=>aL s).length=a.length:=by simp
 have rA:(b.map fun s=>aL s).length=b.length:=by simp
 by_cases hl:a.length=b.length
 ·have hd:(((a.map fun s=>aL s).length:Int) != ((b.map fun s=>aL s).length:Int))=false:=by rw [lG,rA,hl];simp
  refine ai func124 ntmps124 ?_;refine GW.range (a.map fun s=>aL s).length (fun k fr Γ=>fr=[(.sl 2 (a.map fun s=>aL s)),(.sl 2 (b.map fun s=>aL s)),U,U,U,U,U,U,U,U,U,U,.v (ii ((a.map fun s=>aL s).length:Int)),.v (ii (k:Nat)),U,U,U,U,U,U,U,U,U,U,U,U]/\Γ=[]/\ui Aq a b k) ?_ ag ?_ ?_ ?_
  ·exact ⟨_,_,Wk.aK av,rfl,rfl,fun j x y h=>by omega⟩
  ·exact ig
  ·rintro k _ _ ar ⟨rfl,rfl,lM⟩;rw [lG] at ar
   have mK:a[k]?=some a[k]:=by simp [ar]
   have qS:k < b.length:=by omega
   have ov:b[k]?=some b[k]:=by simp [qS]
   have Hm:(a.map fun s=>aL s)[k]?=some (aL a[k]):=by rw [aV,mK];rfl
   have Hn:(b.map fun s=>aL s)[k]?=some (aL b[k]):=by rw [aV,ov];rfl
   generalize a[k]=x at *;generalize b[k]=y at *;unfold aL at Hm Hn
   cases kH:Aq x y with
   | true =>
    have bW:(!((x.name==y.name)&&(x.size==y.size)))=false:=by rw [show ((x.name==y.name)&&(x.size==y.size))=Aq x y from rfl,kH];rfl
    refine G ?_;refine aJ (aD 0 9 .nil) ?_;refine au ?_;apply OP
    ·exact rfl
    ·intro Γ;exact YG.WJ rfl rfl
    refine Tl ?_;refine bj ?_;exact ⟨rfl,rfl,_,_,Wk.aK av,rfl,rfl,mG mK ov lM kH⟩
   | false =>
    have bW:(!((x.name==y.name)&&(x.size==y.size)))=true:=by rw [show ((x.name==y.name)&&(x.size==y.size))=Aq x y from rfl,kH];rfl
    rw [sA mK ov (p:=Aq) kH];refine G ?_;refine aJ (aD 0 9 .nil) ?_;refine au ?_;apply OP
    ·exact rfl
    ·intro Γ;exact YG.WJ rfl rfl
    refine Tl ?_;refine au ?_;exact ax
  ·rintro _ _ ⟨rfl,rfl,lM⟩;rw [lG] at lM;rw [oc hl lM];exact ax
 ·have hd:(((a.map fun s=>aL s).length:Int) != ((b.map fun s=>aL s).length:Int))=true:=by rw [lG,rA];simpa using by omega
  rw [sy hl];refine ai func124 ntmps124 ?_;exact ak
end Go.Xg
