/- Part 7 of proofs that are told in their last texts. -/
import Derived.Test.YtbfmholmeiegoaaGreatDoorY4
import Derived.ProofKit
import Derived.Below
import Derived.ChangeSame
import Derived.Test.YtbfmholmeiegoaaGreatDoorY5
import Derived.Lib.Builder
import Derived.Lib.UnsafeStr
import Derived.Shelf.Strings.Builder1
import Derived.Shelf.Strings.Builder2
import Derived.Shelf.Small.Strs
import Derived.Shelf.Strings.BuilderF
import Derived.Shelf.Strconv.Itoa0
import Derived.Shelf.Strconv.Itoa1
import Derived.Shelf.LaysM
import Derived.Shelf.Strconv.Itoa2
import Derived.Shelf.Strconv.Itoa3
import Derived.Shelf.Strings.Search1
import Derived.Shelf.Strings.Search2
import Derived.Shelf.Strings.Search3
import Derived.Shelf.Strings.Shaped
import Derived.Shelf.Sort.Plain
import Derived.Shelf.Strings.Prefix
import Derived.Shelf.Strings.Fields
import Derived.Shelf.Strings.SplitShaped
import Derived.Shelf.Unicode.Latin
import Derived.Shelf.Unicode.Is16White
import Derived.Shelf.Unicode.IsSpaceAny
import Derived.Shelf.Unicode.Is16Any
import Derived.Shelf.Unicode.Is32Any
import Derived.Shelf.Unicode.ExclAny
import Derived.Ground.Names2Prog
import Derived.Shelf.Slices.CompactI
import Derived.Shelf.Slices.In.SortNone
import Derived.Test.YtbfmholmeiegoaaGreatDoorProg
import Derived.Test.YtbfmholmeiegoaaGreatDoorY1
import Derived.Test.YtbfmholmeiegoaaGreatDoorY2
import Derived.Test.YtbfmholmeiegoaaGreatDoorY6
import Derived.Laws.StructEq
open List (ext_getElem getD_cons_succ getD_cons_zero getElem?_mapIdx getElem_mem length_cons length_nil map_nil mem_singleton sum_cons)
set_option linter.unusedVariables false
set_option linter.unusedSimpArgs false
set_option maxRecDepth 100000
namespace Go.Xw
open Go.RowKit Go.WideShapes Go.ChangeShapes
section
variable {H:Type} {enc:TypeId × Value->H} {P:Program}
theorem F6 {f:Func} {s:ChangeSpec} {apart fresh handsOn again:Bool} {W W':World} {args:Array Value} {v:Value} {ds gs:List (DataW H)} {before pa pv:List MemPlace}
  (hW:DataW.Whole enc P f.params.toList s.vars apart W args.toList ds gs before)
  (XD:∀ (b:Nat) (sp:Nat->Bool) (hd:Bool),DataW.TrodAll enc P W' b sp hd f.resultTypes.toList (v.resultList f.resultTypes.size) (s.fn H (ds++gs)).results [])
  (CN:∀ sp:Nat->Bool,(∀ p∈before,sp p.block=true)->DataW.TrodAll enc P W' 0 sp true f.params.toList args.toList (s.fn H (ds++gs)).args pa)
  (TQ:∀ sp:Nat->Bool,(∀ p∈before,sp p.block=true)->DataW.TrodVars enc P W' sp s.vars (s.fn H (ds++gs)).vars pv)
  (Fi:before=pa++pv) (hb:Below W.heap.size W W')
  (fx:∀ (j:Nat) (t:TypeId) (r:Value),f.resultTypes[j]?=some t->(v.resultList f.resultTypes.size)[j]?=some r->Value.okWide P W' .any 0 t r) :
  s.post enc P f apart fresh handsOn again W args v W':=by
 have ak:∀ p∈before,p.block < W.heap.size:=fun p hp=>hW.lt p hp
 have hold:∀ p∈before,(fun b=>decide (b < W.heap.size)) p.block=true:=fun p hp=>by simpa using ak p hp
 refine ⟨ds,gs,before,[],pa,pv,hW,XD _ _ _,CN _ hold,TQ _ hold,World.keptBut_mono (fun p hp=>⟨hp,?_⟩) (hb.frame (·∈before)),fun _=>?_⟩
 ·rw [Fi,List.mem_append] at hp;exact Or.inr hp
 ·obtain ⟨_,_,_,_,_,hz,hn⟩:=hW;refine ⟨fx,_,_,([]++pa)++pv,⟨[]++pa,pv,trodAll_append (CN _ (fun _ _=>rfl)) (XD _ _ _),TQ _ (fun _ _=>rfl),rfl,?_,?_⟩,?_⟩
  ·intro b off hp
   have gD:MemPlace.cell b off∈before:=by rw [Fi];simpa using hp
   rw [hb.frozen (ak _ gD)];exact hz b off gD
  ·intro ha;have:=hn ha;rw [Fi] at this;simpa using this
  ·intro p hp _;rw [Fi];simpa using hp
end
end Go.Xw
namespace Go.Xg
open Go.RowKit Go.Xw
class DM (P:Program) (t:TypeId):Prop where
 und:∃ e j,P.underlying t=some (.pointer e)/\P.info? e=some j
theorem DM.mk' {P:Program} {t e:TypeId} (h:P.underlying t=some (.pointer e)) (k:(P.info? e).isSome=true):DM P t:=⟨e,(P.info? e).get k,h,by simp⟩
section
variable {P:Program} {m:Nat} {Q:dU} {fr:List GV} {Γ:List Ob} {ops:Array Oper} {rest:List Oper} {d:Option Tmp} {op:Op} {ty:TypeId} {pos:String} {af:Array Edge}
theorem YG.xM {x y:Operand} {t t':TypeId} [hT:DM P t] {i o:Nat} (hx:bb fr x=.loc i o) (hy:bb fr y=.v (.pointer none)):YG P (.binOp .eql t x y t') fr Γ (.v (.bool false)):=fun B K β w l hI hF=>by
 have h:=hF.ev x;rw [hx] at h;generalize hv:ev l x=v at h
 cases h with
 | loc _ _ b hb =>
  obtain ⟨e,j,F,I⟩:=hT.und
  have hp:P.pointee t=e:=by simp [Program.pointee,F]
  have:=run_eql_pointer_nil (P:=P) w t (some ⟨b,o,none⟩) (by rw [hp];exact F);refine ⟨_,fun d ty pos af=>?_,.v _⟩;simp [execOp,eqGuard,hv,hF.jF hy,this]
theorem YG.yk {x y:Operand} {t t':TypeId} [hT:DM P t] {i o:Nat} (hx:bb fr x=.loc i o) (hy:bb fr y=.loc i o):YG P (.binOp .neq t x y t') fr Γ (.v (.bool false)):=fun B K β w l hI hF=>by
 have h:=hF.ev x;rw [hx] at h;have h':=hF.ev y;rw [hy] at h';generalize hv:ev l x=v at h;generalize C5:ev l y=v' at h'
 cases h with
 | loc _ _ b hb =>
  cases h' with
  | loc _ _ b' bD =>
   rw [hb] at bD;cases bD;obtain ⟨e,j,F,I⟩:=hT.und;have:=Lib.run_neq_ptr_same (P:=P) w ⟨b,o,none⟩ F I;refine ⟨_,fun d ty pos af=>?_,.v _⟩;simp [execOp,eqGuard,hv,C5,this]
theorem Inv.again {B:Bs} {K:Fz} {β:Bt} {Γ:List Ob} {w w':World} {i E k:Nat} {rows:List (List GV)} {x:Value} {xs:List Value} (h:Inv B K β Γ w) (hi:Γ[i]?=some (.vech E k rows x)) (ho:jz w' 0 E k x rows.length xs) (hr:bq K β xs rows.flatten)
  (hx:Ext (fun b=>x.ownBlock=some b) w w'):Inv B K β Γ w':=by
 obtain ⟨xs0,F,I,h3,h4,h5⟩:=h.ob i _ hi
 have fT:∀ b,x.ownBlock=some b->(β i).blk=some b:=fun b hb=>by rw [F];exact hb
 refine ⟨h.ext.step hx (fun j hj=>(h.own i j (fT j hj)).symm),h.kle,h.ble,h.loc,h.fz.ext hx (fun b o g hg he=>by rw [h5 b he o] at hg;cases hg),fun j y hj=>?_,h.out,h.dis,h.own,h.kn,h.tab.step hx (fun j hj=>⟨i,fT j hj⟩) (dh.refl K) (fun i b2 h=>.inl ⟨i,h⟩)⟩
 by_cases hji:j=i
 ·subst hji;rw [hi] at hj;cases hj;exact ⟨xs,F,ho,hr,h4,h5⟩
 ·exact (h.ob j y hj).ext hx (fun b hb he=>hji (h.dis j i b hb (fT b he))) (dh.refl K) (dX.refl β) rfl (fun _ _ _ h=>h)
theorem GL.Y5 {s x:Operand} {t u e:Nat} [hT:EK P t e] [hU:rb P u] (i:Nat) {n:Nat} {dt:Tmp} {v:Value} {rows:List (List GV)} {str:ae} (hx:bb fr x=.v (sv str)) (hs:bb fr s=.v v) (bM:Γ[i]?=some (.vech e 1 rows v)) (hn:rows.length=n) (ct:str.isEmpty=false)
  (hb:n+str.length<=140737488355328)
  (h:∀ a c,GL P m ops Q rest (bJ fr (some dt) (.v (.slice a (n+str.length) c))) (oset Γ i (.vech e 1 (rows++cW str) (.slice a (n+str.length) c)))) :
  GL P m ops Q (⟨some dt,.call ⟨.builtin .append,#[s,x],#[t,u]⟩,ty,pos,af,none⟩::rest) fr Γ:=fun B K β w l hm hI hF=>by
 subst hn
 have ct:str≠[]:=by intro h0;rw [h0] at ct;cases ct
 obtain ⟨xs,o1,o2,o3,o4,o5⟩:=hI.ob i _ bM;have sc:ev l s=v:=hF.jF hs
 have gC:(cW str).flatten=str.map fun c=>GV.v (.int .u8 (c.toNat:Int)):=by
  unfold cW;clear hx ct hb h;generalize str=s
  induction s with
  | nil=>rfl
  | cons c r ih=>simp only [List.map_cons,List.flatten_cons,ih];rfl
 have hlen:(cW str).length=str.length:=by simp [cW]
 refine WL.DN (base:=0) (v:=v) (n:=rows.length) (xs:=xs) (str:=str) sc o2 (hF.jF hx) hb (aM _) ?_;intro v' w' how ji vC wX
 obtain ⟨K',hK,se,bE⟩:=(hI.DE bM).grow (fz:=0) (qF bM) o1 ⟨o2,o3⟩ (news:=cW str) (ns:=lW str) (by rw [hlen];exact how) ji vC (by rw [gC];exact (by
   have:(str.map fun c=>GV.v (.int .u8 (c.toNat:Int)))=jW (lW str):=by simp [jW,lW]
   rw [this];exact bq.self)) (fun r hr=>by
   simp only [cW,mP] at hr;obtain ⟨c,_,rfl⟩:=hr
   exact ⟨rfl,fun g hg=>by rw [mem_singleton] at hg;subst hg;rfl⟩) (by intro h0;exact ct (List.map_eq_nil_iff.1 h0)) (fun b bD o v ho hv=>by omega)
 rw [<-aZ,pd] at bE;obtain ⟨a,c,rm,rX⟩:=bE.BQ (qF bM);rw [pd] at rX;obtain ⟨a',c',rfl⟩:=how.shape;rw [bO] at rm;simp only [aO,hlen] at rm rX se;cases rm;exact h _ _ B K' _ w' _ hm rX ((hF.mono hK se).put (some dt) (.v _))
theorem GL.Y4 {s x:Operand} {t u e:Nat} [hT:EK P t e] [hU:rb P u] (i:Nat) {rows:List (List GV)} {v:Value} (hx:bb fr x=.v (sv [])) (hs:bb fr s=.v v) (bM:Γ[i]?=some (.vech e 1 rows v)) (hb:rows.length<=140737488355328)
  (h:GL P m ops Q rest (bJ fr d (.v v)) Γ):GL P m ops Q (⟨d,.call ⟨.builtin .append,#[s,x],#[t,u]⟩,ty,pos,af,none⟩::rest) fr Γ:=fun B K β w l hm hI hF=>by
 obtain ⟨xs,o1,o2,o3,o4,o5⟩:=hI.ob i _ bM;have sc:=hF.jF hs;have tA:=hF.jF hx;obtain ⟨hu,i',hi,hz,dr,zo⟩:=hT.is;have wZ:(⟨([]:ae).toArray⟩:ByteArray).size=0:=rfl;obtain ⟨v',w',hr,I,h3,h4⟩:=Lib.run_append_own_string (P:=P) w 0 t u ty e i' hu hU.und hi hz dr zo v rows.length xs o2 ⟨([]:ae).toArray⟩ (by rw [wZ];simp only [maxLen];omega) (by rw [wZ];omega) (aM _)
 have C5:v'=v:=by
  rcases o2.2 with ⟨rfl,h6⟩ | ⟨g,cap,cur,rfl,qe,hg,rZ,A4,gL,C3⟩
  ·exact h4.2 ⟨rfl,rfl⟩
  ·have W9:cur.size=cap:=by simpa using gL
   have eg:=Lib.run_append_room_string (P:=P) w t u ty e i' hu hU.und hi dr g rows.length cap cur hg ⟨([]:ae).toArray⟩ (by rw [wZ];omega) (by unfold maxLen at A4;rw [wZ];omega);rw [hr] at eg;cases eg;rfl
 subst C5;have ow:(Builtin.append_ #[t,u] ty #[v',sv []]).run P w=.ok v' w':=hr;have gL:Lib.strCells ⟨([]:ae).toArray⟩=[]:=rfl;rw [gL,cY] at I;have ji:Ext (fun b=>v'.ownBlock=some b) w w':=⟨h3.os,h3.tape,h3.output,h3.size,fun j hj hn=>h3.block j hj fun he=>hn he.symm⟩;have bE:=hI.again bM I o3 ji;exact WL.val (v:=v') (w':=w') (by simp [execOp,resolve,invoke,builtin,sc,tA,ow]) (h B K β w' _ hm bE (hF.put d (.v _)))
theorem YG.tF {x:Operand} {t:TypeId} (i:Nat) {E n c:Nat} {a:Option Addr} {rows:List (List GV)} (hx:bb fr x=.v (.slice a n c)) (bM:Γ[i]?=some (.vech E 1 rows (.slice a n c))) (hn:rows.length=n) (hp:Nat.blt 0 n=true) :
  YG P (.call ⟨.builtin .unsafeSliceData,#[x],#[t]⟩) fr Γ (.vp i n 1 0 0):=fun B K β w l hI hF=>by
 subst hn
 have hp:0 < rows.length:=by simpa using hp
 obtain ⟨xs,F,I,h3,h4,h5⟩:=hI.ob i _ bM;have hv:=hF.jF hx
 rcases I.2 with ⟨h8,h9⟩ | ⟨g,cap,cur,h8,_,hg,rZ,_⟩
 ·omega
 ·cases h8
  have hr:=fun ts ty=>Lib.run_unsafeSliceData_row (P:=P) (w:=w) ts ty ⟨g,0,none⟩ rows.length c G
  exact ⟨.pointer (some ⟨g,0,none⟩),fun d ty pos af=>by simp [execOp,resolve,invoke,builtin,hv,hr],.vp i _ 1 0 0 _ ⟨_,_,F,aE _,fun _=>⟨g,rfl,by simp⟩⟩⟩
theorem GL.Qu {x y:Operand} {pt it e:TypeId} (i:Nat) {str:ae} {rows:List (List GV)} {v:Value} (hp:P.underlying pt=some (.pointer e)) (hc:P.cellsOf e=1) (hx:bb fr x=.vp i str.length 1 0 0) (hy:bb fr y=.v (ii str.length)) (bM:Γ[i]?=some (.vech e 1 rows v)) (mJ:rows=cW str)
  (ct:str.isEmpty=false) (hb:str.length<=140737488355328)
  (h:GL P m ops Q rest (bJ fr d (.v (sv str))) (oset Γ i .lost)):GL P m ops Q (⟨d,.call ⟨.builtin .unsafeString,#[x,y],#[pt,it]⟩,ty,pos,af,none⟩::rest) fr Γ:=fun B K β w l hm hI hF=>by
 have ct:str≠[]:=by intro h0;rw [h0] at ct;cases ct
 subst mJ;obtain ⟨xs,o1,o2,o3,o4,o5⟩:=hI.ob i _ bM
 have hlen:(cW str).length=str.length:=by simp [cW]
 have hr:=hF.ev x;rw [hx] at hr;have XL:=hF.jF hy;generalize hv:ev l x=u at hr
 cases hr with
 | vp _ _ _ _ _ _ hh =>
  obtain ⟨h0,mm,e1,e2,e3⟩:=hh;rw [e1] at o1;cases o1;obtain ⟨b,TB,rfl⟩:=e3 hlen
  rcases o2.2 with ⟨h8,h9⟩ | ⟨g,cap,cur,h8,_,hg,rZ,A4,gL,C3⟩
  ·rw [hlen] at h9;exact absurd (iC h9) ct
  ·subst h8;simp only [Value.ownBlock,Option.some.injEq] at TB;subst TB
   have ua:xs=lW str:=by
    have gC:(cW str).flatten=jW (lW str):=by
     have:(cW str).flatten=str.map fun c=>GV.v (.int .u8 (c.toNat:Int)):=by
      unfold cW;generalize str=s
      induction s with
      | nil=>rfl
      | cons c r ih=>simp only [List.map_cons,List.flatten_cons,ih];rfl
     rw [this];simp [jW,lW]
    rw [gC] at o3;apply ext_getElem
    ·have:=o3.1;simpa [jW] using this
    ·intro j F I;have:=o3.2 j xs[j] (.v (lW str)[j]) (by simp [F]) (by simp [jW,I]);exact Rel.gk this
   have mI:∀ j y,str[j]?=some y->w.cell? ((⟨g,0,none⟩:Addr).add j)=some (.int .u8 y.toNat):=fun j y hy=>by
    have:=World.ownsRow.cells (g:=g) o2 rfl j (.int .u8 y.toNat) (by rw [ua];simp [lW,hy]);exact this
   have abV:(cW str).length<=cur.size:=by rw [gL];omega
   have ow:=Lib.run_unsafeString_row (P:=P) w pt it ty e hp hc g cur.size (by simp [World.shape?,hg]) str ct G G mI
   have ji:Ext (·=g) w (w.freeze ⟨g,0,none⟩ str.length):=by
    have:=Lib.below_freeze (Below.refl 0 w) (p:=⟨g,0,none⟩) (aM g) str.length
    exact ⟨this.os,this.tape,this.output,this.size,fun k hk hn=>by
     unfold World.freeze;split
     ·rfl
     ·simp only [Array.getElem?_modify]
      rw [L (fun he=>hn he.symm)]⟩
   have fT:(β i).blk=some g:=by rw [e1];rfl
   have bE:Inv B K β (oset Γ i .lost) (w.freeze ⟨g,0,none⟩ str.length):=by
    refine ⟨hI.ext.step ji (fun j hj=>by subst hj;exact (hI.own i _ fT).symm),hI.kle,hI.ble,hI.loc,hI.fz.ext ji (fun b o g' mU he=>by subst he;rw [o5 _ rfl o] at mU;cases mU),fun j y hj=>?_,fun j hj=>hI.out j (by simpa [aZ] using hj),hI.dis,hI.own,hI.kn,hI.tab.step ji (fun j hj=>⟨i,by subst hj;exact fT⟩) (dh.refl K) (fun i b2 h=>.inl ⟨i,h⟩)⟩;rw [aZ,dx] at hj;split at hj
    ·rename_i ir;split at hj
     ·cases hj;subst ir
      intro b bD;rw [fT] at bD;cases bD;have:=tD hg;exact yD this ji.size
     ·cases hj
    ·rename_i ir;exact (hI.ob j y hj).ext ji (fun b hb he=>by subst he;exact ir (hI.dis i j _ fT hb)) (dh.refl K) (dX.refl β) rfl (fun _ _ _ h=>h)
   exact WL.val (v:=sv str) (w':=w.freeze ⟨g,0,none⟩ str.length) (by simp [execOp,resolve,invoke,builtin,hv,XL,ow,sv]) (h B K β _ _ hm bE (hF.put d (.v _)))
theorem Inv.Tb {B:Bs} {K:Fz} {β:Bt} {Γ:List Ob} {w:World} {x:Bk} {y:Ob} (h:Inv B K β Γ w) (hd:∀ b,x.blk=some b->(∀ i,(β i).blk≠some b)/\B.w0.heap.size<=b/\(b≠3/\b≠1))
  (ho:lM K (gQ β Γ.length x) w Γ.length y) (hold:dX β (gQ β Γ.length x)):Inv B K (gQ β Γ.length x) (Γ++[y]) w:=by
 refine ⟨h.ext,h.kle,h.ble.trans hold,h.loc,h.fz,fun i z hi=>?_,fun i hi=>?_,fun i j b hi hj=>?_,fun i b hi=>?_,h.kn,⟨h.tab.le,h.tab.pow,h.tab.spc,fun i b hi=>?_⟩⟩
 ·by_cases vD:i < Γ.length
  ·rw [fO vD] at hi;exact (h.ob i z hi).ext (S:=jm) (Ext.refl w) (fun _ _ h=>h) (dh.refl K) hold (cK G) (fun _ _ _ h=>h)
  ·have:i=Γ.length:=by have:=(bo hi).1;simp at this;omega
   subst this;simp at hi;subst hi;exact ho
 ·simp at hi;rw [cK G];exact h.out i G
 ·by_cases F:i=Γ.length <;> by_cases I:j=Γ.length
  ·omega
  ·subst F;rw [bO] at hi;rw [cK I] at hj;exact absurd hj ((hd b hi).1 j)
  ·subst I;rw [bO] at hj;rw [cK F] at hi;exact absurd hi ((hd b hj).1 i)
  ·rw [cK F] at hi;rw [cK I] at hj;exact h.dis i j b hi hj
 ·rcases qS hi with F | F
  ·exact .inr (hd b F).2.1
  ·exact h.own i b F
 ·rcases qS hi with F | F
  ·exact (hd b F).2.2
  ·exact h.tab.free i b F
theorem YG.Z8 {x lo:Operand} {t e:TypeId} {k:Nat} [hT:oB P t e k] {rows:List (List GV)} {kk:IntKind} {i:Nat} (hx:bb fr x=.sl k rows) (iP:bb fr lo=.v (.int kk i)) (hi:Nat.blt i rows.length=true):YG P (.slice t x (some lo) none none) fr Γ (.sl k (rows.drop i)):=fun B K β w l hI hF=>by
 have hi:i < rows.length:=by simpa using hi
 have h:=hF.ev x;rw [hx] at h;have Kl:=hF.jF iP;generalize hv:ev l x=v at h
 cases h with
 | sl0 a c=>simp at hi
 | sl b o c _ _ h hc =>
  refine ⟨.slice (some ⟨b,o+i * k,none⟩) (rows.length - i) (c - i),fun d ty pos af=>?_,?_⟩
  ·have pQ:¬ (c=i):=by omega
   have hle:(i:Int)<=(rows.length:Int):=by omega
   simp [execOp,Instr.sliceAt,Instr.slice,Instr.sliceBounds,Instr.sliceBound,asIntOf,hv,Kl,run_underlying hT.und,jX hT.siz,pQ,Nat.le_of_lt hi,rf]
  ·have:=Rel.sl (K:=K) (β:=β) b (o+i * k) (c - i) k (rows.drop i) (fun j r hr=>?_) (by simp;omega)
   ·rw [jv] at this;exact this
   ·rw [List.getElem?_drop] at hr;refine ⟨(h (i+j) r hr).1,fun q g hg=>?_⟩;have:=(h (i+j) r hr).2 q g hg;rw [Nat.add_mul] at this;rw [show o+i * k+j * k+q=o+(i * k+j * k)+q by omega];exact this
theorem YG.vg {x lo:Operand} {t e:TypeId} {k:Nat} [hT:oB P t e k] {rows:List (List GV)} {kk:IntKind} {n:Int} (i:Nat) (hx:bb fr x=.sl k rows) (iP:bb fr lo=.v (.int kk n)) (hn:n=(i:Int)) (hi:Nat.blt i rows.length=true):YG P (.slice t x (some lo) none none) fr Γ (.sl k (rows.drop i)):=by
 subst hn;exact YG.Z8 hx iP hi
end
end Go.Xg
namespace Go.Proofs
open Go.Shelf
theorem gq {α:Type} {a:Option α} {b c:α} (h:a=some b) (k:b=c:=by kernel_rfl):a=some c:=h.trans (congrArg some k)
def Tryz.Bg:Go.Shelf.Ren:=⟨fun | 165=>194 | 240=>238 | 241=>239 | 276=>268 | 277=>269 | n=>n,fun | 70=>202 | 3=>3 | 0=>0 | 4=>4 | 9=>9 | 20=>20 | 72=>204 | 37=>157 | 164=>262 | 5=>5 | n=>n,fun | n=>n⟩
theorem Tryz.U6:Go.Proofs.Lays.n165 Tryz.prog Tryz.Bg:={
 mixed:=by kernel_rfl
 f165:=gq Tryz.func194
 f240:=gq Tryz.func238
 f241:=gq Tryz.func239
 f276:=gq Tryz.func268
 f277:=gq Tryz.func269
 t0:=Tryz.underlying0
 a0:=Tryz.isAgg0
 z0:=Tryz.sizeOf0
 v0:=Tryz.zeroValue0
 t3:=Tryz.underlying3
 a3:=Tryz.isAgg3
 z3:=Tryz.sizeOf3
 v3:=Tryz.zeroValue3
 t4:=Tryz.underlying4
 a4:=Tryz.isAgg4
 z4:=Tryz.sizeOf4
 v4:=Tryz.zeroValue4
 t9:=Tryz.underlying9
 a9:=Tryz.isAgg9
 z9:=Tryz.sizeOf9
 v9:=Tryz.zeroValue9
 t20:=Tryz.underlying20
 a20:=Tryz.isAgg20
 z20:=Tryz.sizeOf20
 v20:=Tryz.zeroValue20
 t37:=Tryz.underlying157
 a37:=Tryz.isAgg157
 z37:=Tryz.sizeOf157
 v37:=Tryz.zeroValue157
 t70:=Tryz.underlying202
 a70:=Tryz.isAgg202
 z70:=Tryz.sizeOf202
 v70:=Tryz.zeroValue202
 t72:=Tryz.underlying204
 a72:=Tryz.isAgg204
 z72:=Tryz.sizeOf204
 v72:=Tryz.zeroValue204
 t164:=Tryz.underlying262
 a164:=Tryz.isAgg262
 z164:=Tryz.sizeOf262
 v164:=Tryz.zeroValue262 }
theorem Tryz.AL:Builder.Extra Tryz.prog Tryz.Bg:={
 sizeBuilder:=by kernel_rfl
 liesBuilder:=by kernel_rfl
 t5:=Tryz.underlying5
 a5:=Tryz.isAgg5
 z5:=Tryz.sizeOf5
 v5:=Tryz.zeroValue5
 infoByte:=by kernel_rfl
 cellsByte:=by kernel_rfl
 sizeByte:=by kernel_rfl
 neB5:=by decide }
open Go.RowKit in
theorem Tryz.Builder_Grow_fresh (B b n:Nat) (w:World) (hB:B<=b) (fT:w.heap[b]?=some (.cells #[.pointer none,.slice none 0 0] 204 (0,0))) (hBw:B<=w.heap.size) (hn:n<=281474976710656) :
  Calls Tryz.prog 194 #[.pointer (some ⟨b,0,none⟩),.int .i64 n] w fun e w'=>e=.returned (.tuple #[])/\(Lib.BuilderAt 204 5 B b (.pointer (some ⟨b,0,none⟩)) [] w'/\Below B w w'):=Any.Builder_Grow_fresh Tryz.U6 Tryz.AL B b n w hB fT hBw hn
def Tryz.Jm:Go.Shelf.Ren:=⟨fun | 137=>164 | 217=>201 | 266=>241 | n=>n,fun | 9=>9 | 5=>5 | 3=>3 | n=>n,fun | n=>n⟩
theorem Tryz.U4:Go.Proofs.Lays.n137 Tryz.prog Tryz.Jm:={
 mixed:=by kernel_rfl
 f137:=gq Tryz.func164
 f217:=gq Tryz.func201
 f266:=gq Tryz.func241
 t3:=Tryz.underlying3
 a3:=Tryz.isAgg3
 z3:=Tryz.sizeOf3
 v3:=Tryz.zeroValue3
 t5:=Tryz.underlying5
 a5:=Tryz.isAgg5
 z5:=Tryz.sizeOf5
 v5:=Tryz.zeroValue5
 t9:=Tryz.underlying9
 a9:=Tryz.isAgg9
 z9:=Tryz.sizeOf9
 v9:=Tryz.zeroValue9 }
open Go.RowKit in
theorem Tryz.strings_IndexByte (s:ByteArray) (c:Int) (w:World) :
  Calls Tryz.prog 164 #[.string s,.int .u8 c] w fun e w'=>e=.returned (.int .i64 (Lib.indexByte s.data.toList c.toNat.toUInt8))/\w'=w:=Any.strings_IndexByte Tryz.U4 s c w
def Tryz.XY:Go.Shelf.Ren:=⟨fun | 246=>237 | 283=>264 | 284=>265 | 285=>266 | 286=>267 | 129=>221 | 317=>278 | 318=>279 | 319=>280 | 320=>281 | 337=>287 | 338=>288 | n=>n,fun | 2=>2 | 3=>3 | 9=>9 | 4=>4 | 171=>258 | 0=>0 | 53=>231 | 37=>157 | 5=>5 | 173=>260 | 212=>275 | 51=>229 | 20=>20 | 213=>276 | 46=>192 | 232=>293 | 233=>294 | n=>n,fun | 17=>3 | 18=>4 | 19=>5 | n=>n⟩
def Tryz.XX:Go.Shelf.Ren:=⟨fun | 243=>193 | 246=>237 | 283=>264 | 284=>265 | 285=>266 | 286=>267 | 129=>221 | 317=>278 | 318=>279 | 319=>280 | 320=>281 | 337=>287 | 338=>288 | n=>n,fun | 3=>3 | 9=>9 | 2=>2 | 4=>4 | 171=>258 | 0=>0 | 53=>231 | 37=>157 | 5=>5 | 173=>260 | 212=>275 | 51=>229 | 20=>20 | 213=>276 | 46=>192 | 232=>293 | 233=>294 | n=>n,fun | 17=>3 | 18=>4 | 19=>5 | n=>n⟩
def Tryz.HG:Go.Shelf.Ren:=⟨fun | 171=>157 | 243=>193 | 246=>237 | 283=>264 | 284=>265 | 285=>266 | 286=>267 | 129=>221 | 317=>278 | 318=>279 | 319=>280 | 320=>281 | 337=>287 | 338=>288 | n=>n,fun | 3=>3 | 9=>9 | 2=>2 | 4=>4 | 171=>258 | 0=>0 | 53=>231 | 37=>157 | 5=>5 | 173=>260 | 212=>275 | 51=>229 | 20=>20 | 213=>276 | 46=>192 | 232=>293 | 233=>294 | n=>n,fun | 17=>3 | 18=>4 | 19=>5 | n=>n⟩
theorem Tryz.RX:Go.Proofs.LaysM.n171 Tryz.prog Tryz.HG:={
 mixed:=by kernel_rfl
 f129:=gq Tryz.func221
 f171:=gq Tryz.func157
 f243:=gq Tryz.func193
 f246:=gq Tryz.func237
 f283:=gq Tryz.func264
 f284:=gq Tryz.func265
 f285:=gq Tryz.func266
 f286:=gq Tryz.func267
 f317:=gq Tryz.func278
 f318:=gq Tryz.func279
 f319:=gq Tryz.func280
 f320:=gq Tryz.func281
 f337:=gq Tryz.func287
 f338:=gq Tryz.func288
 t0:=Tryz.underlying0
 a0:=Tryz.isAgg0
 z0:=Tryz.sizeOf0
 v0:=Tryz.zeroValue0
 t2:=Tryz.underlying2
 a2:=Tryz.isAgg2
 z2:=Tryz.sizeOf2
 v2:=Tryz.zeroValue2
 t3:=Tryz.underlying3
 a3:=Tryz.isAgg3
 z3:=Tryz.sizeOf3
 v3:=Tryz.zeroValue3
 t4:=Tryz.underlying4
 a4:=Tryz.isAgg4
 z4:=Tryz.sizeOf4
 v4:=Tryz.zeroValue4
 t5:=Tryz.underlying5
 a5:=Tryz.isAgg5
 z5:=Tryz.sizeOf5
 v5:=Tryz.zeroValue5
 t9:=Tryz.underlying9
 a9:=Tryz.isAgg9
 z9:=Tryz.sizeOf9
 v9:=Tryz.zeroValue9
 t20:=Tryz.underlying20
 a20:=Tryz.isAgg20
 z20:=Tryz.sizeOf20
 v20:=Tryz.zeroValue20
 t37:=Tryz.underlying157
 a37:=Tryz.isAgg157
 z37:=Tryz.sizeOf157
 v37:=Tryz.zeroValue157
 t46:=Tryz.underlying192
 a46:=Tryz.isAgg192
 z46:=Tryz.sizeOf192
 v46:=Tryz.zeroValue192
 t51:=Tryz.underlying229
 a51:=Tryz.isAgg229
 z51:=Tryz.sizeOf229
 v51:=Tryz.zeroValue229
 t53:=Tryz.underlying231
 a53:=Tryz.isAgg231
 z53:=Tryz.sizeOf231
 v53:=Tryz.zeroValue231
 t171:=Tryz.underlying258
 a171:=Tryz.isAgg258
 z171:=Tryz.sizeOf258
 v171:=Tryz.zeroValue258
 t173:=Tryz.underlying260
 a173:=Tryz.isAgg260
 z173:=Tryz.sizeOf260
 v173:=Tryz.zeroValue260
 t212:=Tryz.underlying275
 a212:=Tryz.isAgg275
 z212:=Tryz.sizeOf275
 v212:=Tryz.zeroValue275
 t213:=Tryz.underlying276
 a213:=Tryz.isAgg276
 z213:=Tryz.sizeOf276
 t232:=Tryz.underlying293
 a232:=Tryz.isAgg293
 z232:=Tryz.sizeOf293
 v232:=Tryz.zeroValue293
 t233:=Tryz.underlying294
 a233:=Tryz.isAgg294
 z233:=Tryz.sizeOf294
 v233:=Tryz.zeroValue294
 g17:=by kernel_rfl
 g18:=by kernel_rfl
 g19:=by kernel_rfl
 i0:=by kernel_rfl
 i2:=by kernel_rfl
 i3:=by kernel_rfl
 i4:=by kernel_rfl
 i5:=by kernel_rfl
 i9:=by kernel_rfl
 i20:=by kernel_rfl
 i37:=by kernel_rfl
 i46:=by kernel_rfl
 i51:=by kernel_rfl
 i53:=by kernel_rfl
 i171:=by kernel_rfl
 i173:=by kernel_rfl
 i212:=by kernel_rfl
 i232:=by kernel_rfl
 i233:=by kernel_rfl
 m17:=by kernel_rfl
 m18:=by kernel_rfl
 m19:=by kernel_rfl }
open Go.RowKit Go.Sort Go.Lib in
theorem Tryz.strconv_Itoa (n:Int) (h0 : -9223372036854775808<=n) (F:n<=9223372036854775807) (w:World) (BU:Lib.TabIs Tryz.prog w "internal/strconv.uint64pow10" .u64 Lib.pow10Tab) :
  Calls Tryz.prog 157 #[.int .i64 n] w fun e w'=>e=.returned (.string ⟨(Lib.itoa n).toArray⟩)/\∃ k os,w'=grow (w.drewN k) os:=Any.strconv_Itoa Tryz.RX n h0 F w BU
def Tryz.Y0:Go.Shelf.Ren:=⟨fun | 219=>203 | 217=>201 | 225=>242 | 224=>243 | 267=>244 | 266=>241 | 314=>270 | n=>n,fun | 9=>9 | 3=>3 | 4=>4 | 5=>5 | 46=>192 | 146=>265 | 51=>229 | n=>n,fun | 1=>0 | n=>n⟩
def Tryz.Jn:Go.Shelf.Ren:=⟨fun | 143=>166 | 219=>203 | 217=>201 | 225=>242 | 224=>243 | 267=>244 | 266=>241 | 314=>270 | n=>n,fun | 9=>9 | 3=>3 | 4=>4 | 5=>5 | 46=>192 | 146=>265 | 51=>229 | n=>n,fun | 1=>0 | n=>n⟩
theorem Tryz.U5:Go.Proofs.Lays.n143 Tryz.prog Tryz.Jn:={
 mixed:=by kernel_rfl
 f143:=gq Tryz.func166
 f217:=gq Tryz.func201
 f219:=gq Tryz.func203
 f224:=gq Tryz.func243
 f225:=gq Tryz.func242
 f266:=gq Tryz.func241
 f267:=gq Tryz.func244
 f314:=gq Tryz.func270
 t3:=Tryz.underlying3
 a3:=Tryz.isAgg3
 z3:=Tryz.sizeOf3
 v3:=Tryz.zeroValue3
 t4:=Tryz.underlying4
 a4:=Tryz.isAgg4
 z4:=Tryz.sizeOf4
 v4:=Tryz.zeroValue4
 t5:=Tryz.underlying5
 a5:=Tryz.isAgg5
 z5:=Tryz.sizeOf5
 v5:=Tryz.zeroValue5
 t9:=Tryz.underlying9
 a9:=Tryz.isAgg9
 z9:=Tryz.sizeOf9
 v9:=Tryz.zeroValue9
 t46:=Tryz.underlying192
 a46:=Tryz.isAgg192
 z46:=Tryz.sizeOf192
 v46:=Tryz.zeroValue192
 t51:=Tryz.underlying229
 a51:=Tryz.isAgg229
 z51:=Tryz.sizeOf229
 v51:=Tryz.zeroValue229
 t146:=Tryz.underlying265
 a146:=Tryz.isAgg265
 z146:=Tryz.sizeOf265
 v146:=Tryz.zeroValue265
 g1:=by kernel_rfl }
open Go.RowKit Go.Lib in
theorem Tryz.strings_Index (s sub:ByteArray) (m:Int) (w:World) (hs:s.size < 4294967281) (hm:w.cell? ⟨0,0,none⟩=some (.int .i64 m)) :
  Calls Tryz.prog 166 #[.string s,.string sub] w fun e w'=>e=.returned (.int .i64 (Lib.index s.data.toList sub.data.toList))/\w'=w:=Any.strings_Index Tryz.U5 s sub m w hs hm
def Tryz.YZ:Go.Shelf.Ren:=⟨fun | 157=>223 | 229=>256 | 199=>257 | 261=>274 | 311=>283 | 312=>284 | n=>n,fun | 9=>9 | 31=>22 | 3=>3 | 5=>5 | 4=>4 | 119=>253 | 0=>0 | 40=>255 | 152=>269 | 21=>21 | 154=>271 | 51=>229 | 141=>273 | 196=>281 | 193=>278 | 198=>284 | 49=>282 | 194=>279 | 201=>287 | 226=>290 | 46=>192 | 227=>291 | n=>n,fun | 0=>1 | 6=>2 | n=>n⟩
def Tryz.HF:Go.Shelf.Ren:=⟨fun | 157=>223 | 229=>256 | 199=>257 | 261=>274 | 311=>283 | 312=>284 | n=>n,fun | 9=>9 | 31=>22 | 3=>3 | 5=>5 | 4=>4 | 119=>253 | 0=>0 | 40=>255 | 152=>269 | 21=>21 | 154=>271 | 51=>229 | 141=>273 | 196=>281 | 193=>278 | 198=>284 | 49=>282 | 194=>279 | 201=>287 | 226=>290 | 46=>192 | 227=>291 | n=>n,fun | 0=>1 | 6=>2 | n=>n⟩
theorem Tryz.RW:Go.Proofs.LaysM.n157 Tryz.prog Tryz.HF:={
 mixed:=by kernel_rfl
 f157:=gq Tryz.func223
 f199:=gq Tryz.func257
 f229:=gq Tryz.func256
 f261:=gq Tryz.func274
 f311:=gq Tryz.func283
 f312:=gq Tryz.func284
 t0:=Tryz.underlying0
 a0:=Tryz.isAgg0
 z0:=Tryz.sizeOf0
 v0:=Tryz.zeroValue0
 t3:=Tryz.underlying3
 a3:=Tryz.isAgg3
 z3:=Tryz.sizeOf3
 v3:=Tryz.zeroValue3
 t4:=Tryz.underlying4
 a4:=Tryz.isAgg4
 z4:=Tryz.sizeOf4
 v4:=Tryz.zeroValue4
 t5:=Tryz.underlying5
 a5:=Tryz.isAgg5
 z5:=Tryz.sizeOf5
 v5:=Tryz.zeroValue5
 t9:=Tryz.underlying9
 a9:=Tryz.isAgg9
 z9:=Tryz.sizeOf9
 v9:=Tryz.zeroValue9
 t21:=Tryz.underlying21
 a21:=Tryz.isAgg21
 z21:=Tryz.sizeOf21
 v21:=Tryz.zeroValue21
 t31:=Tryz.underlying22
 a31:=Tryz.isAgg22
 z31:=Tryz.sizeOf22
 v31:=Tryz.zeroValue22
 t40:=Tryz.underlying255
 a40:=Tryz.isAgg255
 z40:=Tryz.sizeOf255
 v40:=Tryz.zeroValue255
 t46:=Tryz.underlying192
 a46:=Tryz.isAgg192
 z46:=Tryz.sizeOf192
 v46:=Tryz.zeroValue192
 t49:=Tryz.underlying282
 a49:=Tryz.isAgg282
 z49:=Tryz.sizeOf282
 v49:=Tryz.zeroValue282
 t51:=Tryz.underlying229
 a51:=Tryz.isAgg229
 z51:=Tryz.sizeOf229
 v51:=Tryz.zeroValue229
 t119:=Tryz.underlying253
 a119:=Tryz.isAgg253
 z119:=Tryz.sizeOf253
 t141:=Tryz.underlying273
 a141:=Tryz.isAgg273
 z141:=Tryz.sizeOf273
 v141:=Tryz.zeroValue273
 t152:=Tryz.underlying269
 a152:=Tryz.isAgg269
 z152:=Tryz.sizeOf269
 v152:=Tryz.zeroValue269
 t154:=Tryz.underlying271
 a154:=Tryz.isAgg271
 z154:=Tryz.sizeOf271
 v154:=Tryz.zeroValue271
 t193:=Tryz.underlying278
 a193:=Tryz.isAgg278
 z193:=Tryz.sizeOf278
 v193:=Tryz.zeroValue278
 t194:=Tryz.underlying279
 a194:=Tryz.isAgg279
 z194:=Tryz.sizeOf279
 v194:=Tryz.zeroValue279
 t196:=Tryz.underlying281
 a196:=Tryz.isAgg281
 z196:=Tryz.sizeOf281
 v196:=Tryz.zeroValue281
 t198:=Tryz.underlying284
 a198:=Tryz.isAgg284
 z198:=Tryz.sizeOf284
 v198:=Tryz.zeroValue284
 t201:=Tryz.underlying287
 a201:=Tryz.isAgg287
 z201:=Tryz.sizeOf287
 v201:=Tryz.zeroValue287
 t226:=Tryz.underlying290
 a226:=Tryz.isAgg290
 z226:=Tryz.sizeOf290
 v226:=Tryz.zeroValue290
 t227:=Tryz.underlying291
 a227:=Tryz.isAgg291
 z227:=Tryz.sizeOf291
 v227:=Tryz.zeroValue291
 g0:=by kernel_rfl
 g6:=by kernel_rfl
 i0:=by kernel_rfl
 i3:=by kernel_rfl
 i4:=by kernel_rfl
 i5:=by kernel_rfl
 i9:=by kernel_rfl
 i21:=by kernel_rfl
 i31:=by kernel_rfl
 i40:=by kernel_rfl
 i46:=by kernel_rfl
 i49:=by kernel_rfl
 i51:=by kernel_rfl
 i141:=by kernel_rfl
 i152:=by kernel_rfl
 i154:=by kernel_rfl
 i193:=by kernel_rfl
 i194:=by kernel_rfl
 i196:=by kernel_rfl
 i198:=by kernel_rfl
 i201:=by kernel_rfl
 i226:=by kernel_rfl
 i227:=by kernel_rfl
 m0:=by kernel_rfl
 m6:=by kernel_rfl }
open Go.RowKit Go.Lib in
theorem Tryz.strings_Fields_laid (s:ByteArray) (w:World) (hs:s.size < 4294967281) (W4:∀ (j:Nat) b,s.data.toList[j]?=some b->b.toNat < 128) (BU:Lib.TabIs Tryz.prog w "strings.asciiSpace" .u8 Lib.asciiSpaceTab) :
  Calls Tryz.prog 223 #[.string s] w fun e w' =>
   e=.returned (.slice (some ⟨w.heap.size,0,none⟩) (Lib.fields s.data.toList).length (Lib.fields s.data.toList).length)/\w'=w.alloc (.cells ((Lib.fields s.data.toList).map fun l=>Value.string ⟨l.toArray⟩).toArray 9):=Any.strings_Fields_laid Tryz.RW s w hs W4 BU
end Go.Proofs
set_option maxHeartbeats 1000000
namespace Go.Xg
open Go.RowKit Go.Xw Go.Proofs Tryz
attribute [local irreducible] GW GL GO YG GC GA be bg
instance:EK prog 157 5:=EK.mk' (ai)
instance:DM prog 202:=DM.mk' (e:=204) (ai) (ai)
theorem I9 (g:Value):GF prog 238 [.loc 0 0] [.box 204 [.loc 0 0,.v g]] (.tup []) [.box 204 [.loc 0 0,.v g]]:=by
 refine ah func238 ntmps238 ?_;exact iK
theorem tO (s:ae) (n:Nat) (a:Option Addr) (c:Nat) (rows:List (List GV)) (hn:rows.length=n) (hb:n+s.length<=140737488355328) :
  GC prog 195 [.loc 0 0,.v (sv s)] [.box 204 [.loc 0 0,.v (.slice a n c)],.vech 5 1 rows (.slice a n c)] (fun g aR=>(∃ x,g=.tup [.v (ii s.length),x])/\∃ a c,aR=[.box 204 [.loc 0 0,.v (.slice a (n+s.length) c)],.vech 5 1 (rows++cW s) (.slice a (n+s.length) c)]):=by
 subst hn;have h:=I9 (.slice a rows.length c)
 cases s with
 | nil =>
  refine ah func195 ntmps195 ?_;refine V [0] h ?_;refine GL.Y4 1 rfl rfl rfl (by simpa using hb) ?_;refine dk ?_;refine D ?_;refine AF ?_;exact ⟨⟨_,rfl⟩,a,c,by simp [cW]⟩
 | cons x r =>
  generalize hs:x::r=s at *
  have ct:s.isEmpty=false:=by rw [<-hs];rfl
  clear hs;refine ah func195 ntmps195 ?_;refine V [0] h ?_;refine GL.Y5 1 rfl rfl rfl bj cl G ?_;intro a2 c2;refine dk ?_;refine D ?_;refine AF ?_;exact ⟨⟨_,rfl⟩,a2,c2,rfl⟩
theorem QX (str:ae) (a:Option Addr) (c:Nat) (h0:str≠[]) (hb:str.length<=140737488355328) :
  GF prog 196 [.loc 0 0] [.box 204 [.loc 0 0,.v (.slice a str.length c)],.vech 5 1 (cW str) (.slice a str.length c)] (.v (sv str)) [.box 204 [.loc 0 0,.v (.slice a str.length c)],.lost]:=by
 have hlen:(cW str).length=str.length:=by simp [cW]
 have hp:Nat.blt 0 str.length=true:=by simpa using List.length_pos_iff.2 h0
 have ct:str.isEmpty=false:=by cases str with | nil=>exact absurd rfl h0 | cons _ _=>rfl
 refine ah func196 ntmps196 ?_;refine aL (aD 0 10 (.a 10 (.q 11 .nil))) ?_;refine ao ?_;refine M0 ?_;refine ao ?_;exact ay
end Go.Xg
namespace Go.Xg
open GV (U)
open Go.RowKit Go.Xw Go.Proofs Tryz
open Go.Xp (bX)
theorem p7.FB {P:Program} {f:FuncId} {vs:List Value} {w:World} {R:Value->World->Prop} (h:Calls P f vs.toArray w fun e w'=>∃ v,e=.returned v/\R v w'):p7 P f vs w R:=h
theorem GW.builder {Q:dU} {fr:List GV} {r1 r2:Nat} {rest:Code} {t8 t56 t57 t5:Tmp} {T1 T2 T3 T4 T5:TypeId} {p1 p2 p3:String} {a1 a2 a3:Array Edge} (n:Nat)
  (h8:jj fr t8=true) (h56:jj fr t56=true) (ct:Nat.beq t8 t56=false) (abf:Nat.beq t5 t8=false) (hn:cz fr t5=.v (ii (n:Nat))) (hb:n<=281474976710656)
  (h:∀ a c,GW prog 0 rest Q (bp (bp (bp fr t8 (.loc 0 0)) t56 (.v (ii (n:Nat)))) t57 (.v (.tuple #[]))) [.box 204 [.loc 0 0,.v (.slice a 0 c)],.vech 5 1 [] (.slice a 0 c)]) :
  GW prog 0 (.seq (.region r1 [(⟨some t8,.alloc 204,T1,p1,a1,none⟩:Oper)].toArray false) (.seq (.region r2 [(⟨some t56,.move (.tmp t5),T2,p2,a2,none⟩:Oper),⟨some t57,.call ⟨.value (.func 194),[Operand.tmp t8,.tmp t56].toArray,#[T3,T4]⟩,T5,p3,a3,none⟩].toArray false) rest)) Q fr []:=fun B K β w l hm hI hF=>by
 have BS:t8≠t56:=by intro e;subst e;simp at ct
 have TK:t5≠t8:=by intro e;subst e;simp at abf
 have i8:=n9 hF h8;have i56:=n9 hF h56;refine W.seq (W.region (WL.alloc (t:=204) fun b w1 tW=>WL.nil ?_));refine W.seq (W.region (WL.v R.mv (WL.call (f:=194) (DO:=[.pointer (some ⟨b,0,none⟩),.int .i64 n]) ?_ (R:=fun x w2=>x=.tuple #[]/\(Lib.BuilderAt 204 5 b b (.pointer (some ⟨b,0,none⟩)) [] w2/\Below b w1 w2)) ?_ fun x w2 hx=>WL.nil ?_)))
 ·have Oz:FR K (gQ β 0 (.fix b)) (bp fr t8 (.loc 0 0)) (put l (some t8) (.pointer (some ⟨b,0,none⟩))) :=
   (hF.mono (dh.refl K) (jM (i:=0) (x:=.fix b) (by rw [hI.out 0 (aE _)];trivial))).fV t8 (.loc 0 0 b bO)
  have j56:jj (fV l t8 (.pointer (some ⟨b,0,none⟩))) t56=true:=n9 Oz (t:=t56) (by rw [Kx];exact h56)
  have e5:nth (fV l t8 (.pointer (some ⟨b,0,none⟩))) t5=.int .i64 n:=by
   rw [pG TK];exact Rel.gk (by rw [<-hn];exact hF.nth t5)
  show [nth (fV (fV l t8 (.pointer (some ⟨b,0,none⟩))) t56 (nth (fV l t8 (.pointer (some ⟨b,0,none⟩))) t5)) t8,nth (fV (fV l t8 (.pointer (some ⟨b,0,none⟩))) t56 (nth (fV l t8 (.pointer (some ⟨b,0,none⟩))) t5)) t56]=_;rw [pG BS,uv i8,uv j56,e5]
 ·refine p7.FB (Calls.mono (Tryz.Builder_Grow_fresh b b n w1 (aE _) tW.blk (by have:=tW.size;omega) hb) ?_);rintro e w' ⟨F,I⟩;exact ⟨_,F,rfl,I⟩
 ·obtain ⟨rfl,⟨_,v,mI,jc,zw⟩,G6⟩:=hx;have jc:jz w2 b 5 1 v 0 []:=jc;obtain ⟨a,c,rfl⟩:=jc.shape;have vC:=tW.fresh;have ji:Ext jm w w2:=⟨G6.os.trans tW.ext.os,G6.tape.trans tW.ext.tape,G6.output.trans tW.ext.output,kA tW.ext.size G6.size,fun k hk hs=>(G6.block k G).trans (tW.ext.block k hk hs)⟩;have rX:=hI.same ji
  have da:∀ i,β i=.no:=fun i=>hI.out i (aM _)
  have WN:∀ o,K b o=none:=fun o=>by
   cases hk:K b o with
   | none=>rfl
   | some g=>have:=hI.fz.lt hk;omega
  have hw0:=hI.ext.size;have ab8:=hI.tab.pow.lt;have ov:=hI.tab.spc.lt;have Xn:dX β (gQ β ([]:List Ob).length (.fix b)):=jM (by rw [da];trivial)
  have hI3:=rX.Tb (x:=.fix b) (y:=.box 204 [.loc 0 0,.v (.slice a 0 c)]) (fun b' bD=>by
   cases bD
   exact ⟨fun i hi=>(by rw [da] at hi;cases hi),by omega,by omega,by omega⟩) (by
   refine ⟨b,[.pointer (some ⟨b,0,none⟩),.slice a 0 c],bO,mI,.cons (.loc 0 0 b bO) (.cons (.v _) .nil),WN⟩) Xn
  have CZ:jz w2 0 5 1 (.slice a 0 c) 0 []:=jc.base (aM _)
  have hab:∀ g,(Value.slice a 0 c).ownBlock=some g->b < g:=fun g hg=>by
   have F:=(jc.lt hg).1
   have I:g≠b:=fun e=>zw (by rw [hg,e])
   omega
  have A2:gQ β ([]:List Ob).length (.fix b) 1=.no:=by rw [cK aU];exact da 1
  have BR:dX (gQ β ([]:List Ob).length (.fix b)) (gQ (gQ β ([]:List Ob).length (.fix b)) 1 (.gr (.slice a 0 c) 0)):=jM (by rw [A2];trivial)
  have hI4:=hI3.Tb (x:=.gr (.slice a 0 c) 0) (y:=.vech 5 1 [] (.slice a 0 c)) (fun g hg=>by
   have:=hab g hg;refine ⟨fun i hi=>?_,by omega,by omega,by omega⟩
   rcases qS hi with F | F
   ·cases F;omega
   ·rw [da] at F;cases F) (by
   refine ⟨[],bO,CZ,bq.nil,(fun r hr=>by cases hr),fun g hg o=>?_⟩
   cases hk:K g o with
   | none=>rfl
   | some y=>have:=hI.fz.lt hk;have:=hab g hg;omega) BR
  refine h a c B K _ w2 _ hm hI4 ?_;have hF2:=(hF.mono (dh.refl K) Xn).mono (dh.refl K) BR;refine ((hF2.fV t8 (.loc 0 0 b ?_)).fV t56 ?_).fV t57 (.v _)
  ·rw [cK aU];exact bO
  ·have e5:nth (fV l t8 (.pointer (some ⟨b,0,none⟩))) t5=.int .i64 n:=by
    rw [pG TK];exact Rel.gk (by rw [<-hn];exact hF.nth t5)
   rw [show ev (put l (some t8) (.pointer (some ⟨b,0,none⟩))) (.tmp t5)=.int .i64 n from e5];exact .v _
attribute [local irreducible] GW GL GO YG GC GA be bg
theorem vu (a b:ae):cW (a++b)=cW a++cW b:=by simp [cW]
def oA (l:List ae):Nat:=(l.map List.length).sum
theorem Fo:∀ (r:List ae) (x:ae),(bX (x::r)).length=oA (x::r)+2 * r.length
 | [],x=>by simp [bX,oA]
 | y::r,x=>by
  have:=Fo r y;simp only [bX,oA,aO,List.map_cons,sum_cons,List.flatMap_cons,length_cons] at this |-;omega
def gj (l:List ae):ae:=l.flatMap fun y=>44::32::y
theorem Ov (a b:List ae):gj (a++b)=gj a++gj b:=by unfold gj;rw [List.flatMap_append]
theorem UT (l:List ae) (k:Nat):(gj (l.take k)).length<=(gj l).length:=by
 have:gj l=gj (l.take k)++gj (l.drop k):=by rw [<-Ov,List.take_append_drop]
 rw [this,aO];omega
theorem WA (y:ae):gj [y]=[44,32]++y:=by simp [gj]
theorem RJ (x:ae) (r:List ae):bX (x::r)=x++gj r:=rfl
theorem Nj (l:List ae) (hb:(bX l).length<=1099511627776) (hl:l.length<=1099511627776):GF prog 158 [strs l,.v (sv [44,32])] [] (.v (sv (bX l))) []:=by
 match l,hb,hl with
 | [],hb,hl =>
  refine ah func158 ntmps158 ?_;exact aj
 | [x],hb,hl =>
  have hr:([x].map fun s=>[GV.v (sv s)])[0]?=some [.v (sv x)]:=rfl
  have e:bX [x]=x:=by simp [bX]
  rw [e];refine ah func158 ntmps158 ?_;exact aj
 | x::y::r,hb,hl =>
  have tz:((x::y::r).map fun s=>[GV.v (sv s)])[0]?=some [.v (sv x)]:=rfl;have hlen:=Fo (y::r) x
  have Bd:x.length<=1099511627776:=by simp only [bX,aO] at hb;omega
  generalize hL:(x::y::r)=l at *
  have kW:2<=l.length:=by rw [<-hL];simp
  have fJ:(l.map fun s=>[GV.v (sv s)]).length=l.length:=by simp
  have A2:Nat.blt 1 (l.map fun s=>[GV.v (sv s)]).length=true:=by rw [fJ];simpa [Nat.blt] using kW
  have Ba:(((l.map fun s=>[GV.v (sv s)]).length:Int)==0)=false:=by rw [fJ];simp only [beq_eq_false_iff_ne,ne_eq];omega
  have Hk:(((l.map fun s=>[GV.v (sv s)]).length:Int)==1)=false:=by rw [fJ];simp only [beq_eq_false_iff_ne,ne_eq];omega
  have hq:decide ((9223372036854775807:Int) / (((l.map fun s=>[GV.v (sv s)]).length:Int) - 1)<=2)=false:=by
   rw [fJ]
   have h3:(3:Int)<=9223372036854775807 / ((l.length:Int) - 1):=by
    rw [Int.le_ediv_iff_mul_le G];omega
   simp;omega
  refine ah func158 ntmps158 ?_;apply GL.q
  ·exact YG.mul (a:=2) (b:=((l.map fun s=>[GV.v (sv s)]).length:Int) - 1) rfl rfl G
  refine bm ?_;refine D ?_;refine GW.range (l.map fun s=>[GV.v (sv s)]).length (fun k fr Γ=>fr=[strs l,.v (sv [44,32]),U,U,U,.v (ii (0+2 * (((l.map fun s=>[GV.v (sv s)]).length:Int) - 1)+((oA (l.take k):Nat):Int))),U,U,U,U,U,U,U,U,U,U,U,U,U,U,U,U,U,U,U,U,U,U,U,U,U,U,U,U,U,U,U,U,U,strs l,.v (ii ((l.map fun s=>[GV.v (sv s)]).length:Int)),.v (ii (k:Nat)),U,U,U,U,U,U,U,U,U,U,U,U,U,U,U,U,U,U,U,U,U,U,U,U,U,U,U,U,U,U,U,U,U]/\Γ=[]) ?_ G ?_ ?_ ?_
  ·refine ⟨_,_,Wk.aH (cJ:=[strs l,.v (sv [44,32]),U,U,U,.v (ii (0+2 * (((l.map fun s=>[GV.v (sv s)]).length:Int) - 1))),U,U,U,U,U,U,U,U,U,U,U,U,U,U,U,U,U,U,U,U,U,U,U,U,U,U,U,U,U,U,U,U,U,strs l,.v (ii ((l.map fun s=>[GV.v (sv s)]).length:Int)),.v (ii (0:Nat)),U,U,U,U,U,U,U,U,U,U,U,U,U,U,U,U,U,U,U,U,U,U,U,U,U,U,U,U,U,U,U,U,U]) ar,?_,rfl⟩;rw [List.take_zero,show ((oA []:Nat):Int)=0 from rfl,Int.add_zero]
  ·rintro k _ _ ⟨rfl,rfl⟩;exact dK
  ·rintro k _ _ ak ⟨rfl,rfl⟩;rw [fJ] at ak
   have dy:l[k]?=some l[k]:=by simp [ak]
   have CT:(l.map fun s=>[GV.v (sv s)])[k]?=some [.v (sv l[k])]:=by rw [aP,dy];rfl
   have hs:oA (l.take (k+1))=oA (l.take k)+l[k].length:=by unfold oA;rw [cq,dy,gU,List.sum_append];simp only [Option.toList,List.map_cons,map_nil,sum_cons,List.sum_nil,Nat.add_zero]
   have hle:oA (l.take (k+1))<=oA l:=by
    have:oA l=oA (l.take (k+1))+oA (l.drop (k+1)):=by
     unfold oA;rw [<-List.sum_append,<-gU,List.take_append_drop]
    omega
   generalize l[k]=z at *;rw [show (0+2 * (((l.map fun s=>[GV.v (sv s)]).length:Int) - 1)+((oA (l.take (k+1)):Nat):Int))=0+2 * (((l.map fun s=>[GV.v (sv s)]).length:Int) - 1)+((oA (l.take k):Nat):Int)+(z.length:Int) by rw [hs];omega]
   have hov:decide (9223372036854775807 - (0+2 * (((l.map fun s=>[GV.v (sv s)]).length:Int) - 1)+((oA (l.take k):Nat):Int)) < (z.length:Int))=false:=by
    simp only [decide_eq_false_iff_not];omega
   refine D ?_;exact ⟨rfl,rfl,_,_,Wk.aH ar,rfl,rfl⟩
  ·rintro _ _ ⟨rfl,rfl⟩;rw [fJ,bW]
   have hN:(0+2 * ((l.length:Int) - 1)+((oA l:Nat):Int))=(((bX l).length:Nat):Int):=by
    have:(y::r).length+1=l.length:=by rw [<-hL];simp
    omega
   rw [hN];refine ba ?_
   refine GW.builder (bX l).length rfl rfl rfl rfl rfl G fun a c=>?_
   refine D ?_;refine cM [0,1] (tO x 0 a c [] rfl G) ?_;rintro _ _ ⟨⟨u1,rfl⟩,a1,c1,rfl⟩;refine dH ?_;refine D ?_
   have key:∀ k,(x++gj ((y::r).take k)).length<=1099511627776:=fun k=>by
    have F:=UT (y::r) k;rw [<-hL,RJ,aO] at hb;rw [aO];omega
   refine GW.range ((y::r).map fun s=>[GV.v (sv s)]).length (fun k fr Γ=>∃ acc a c,fr=[U,.v (sv [44,32]),U,U,U,U,U,U,.loc 0 0,U,U,U,U,U,U,U,U,U,U,U,U,U,U,U,U,U,U,U,U,U,U,U,U,U,U,U,U,U,U,U,U,U,U,U,U,U,U,U,U,U,U,U,U,U,U,U,U,U,U,U,U,U,U,strs (y::r),.v (ii (((y::r).map fun s=>[GV.v (sv s)]).length:Int)),.v (ii (k:Nat)),U,U,U,U,U,U,U,U,U]/\acc=x++gj ((y::r).take k)/\Γ=[.box 204 [.loc 0 0,.v (.slice a acc.length c)],.vech 5 1 (cW acc) (.slice a acc.length c)]) ?_ ?_ ?_ ?_ ?_
   ·rw [show 0+x.length=x.length from cI _];subst hL;exact ⟨_,_,Wk.aH ar,x,a1,c1,rfl,by simp [gj],rfl⟩
   ·have:((y::r).map fun s=>[GV.v (sv s)]).length+1=l.length:=by rw [<-hL];simp
    omega
   ·rintro k _ _ ⟨acc,a,c,rfl,_,rfl⟩;exact dK
   ·rintro k _ _ ak ⟨acc,a,c,rfl,mz,rfl⟩
    have ak:k < (y::r).length:=by simpa using ak
    have dy:(y::r)[k]?=some (y::r)[k]:=by simp [ak]
    have CT:((y::r).map fun s=>[GV.v (sv s)])[k]?=some [.v (sv (y::r)[k])]:=by rw [aP,dy];rfl
    have bV:x++gj ((y::r).take (k+1))=(acc++[44,32])++(y::r)[k]:=by
     rw [cq,dy,Ov,<-cS,<-mz,cS]
     congr 1
     exact WA _
    have vE:=key k;have tt:=key (k+1);rw [bV] at tt;rw [<-mz] at vE;simp only [aO,length_cons,length_nil] at tt;generalize (y::r)[k]=z at *
    have Zp:(cW acc).length=acc.length:=by simp [cW]
    refine D ?_;refine cM [0,1] (tO [44,32] acc.length a c (cW acc) Zp (by simp only [length_cons,length_nil];omega)) ?_;rintro _ _ ⟨⟨u1,rfl⟩,a2,c2,rfl⟩;refine dH ?_;rw [show cW acc++[[GV.v (.int .u8 ((44:UInt8).toNat:Int))],[GV.v (.int .u8 ((32:UInt8).toNat:Int))]]=cW (acc++[44,32]) by simp [cW],show acc.length+([44,32]:ae).length=(acc++[44,32]).length by simp];refine D ?_;refine cM [0,1] (tO z (acc++[44,32]).length a2 c2 (cW (acc++[44,32])) (by simp [cW]) (by simp only [aO,length_cons,length_nil];omega)) ?_;rintro _ _ ⟨⟨u2,rfl⟩,a3,c3,rfl⟩;refine dH ?_
    have ez:List.length (acc++[44,32])+List.length z=List.length ((acc++[44,32])++z):=by simp only [aO]
    rw [<-vu,ez];refine D ?_;exact ⟨rfl,rfl,_,_,Wk.aH ar,(acc++[44,32])++z,a3,c3,rfl,bV.symm,rfl⟩
   ·rintro _ _ ⟨acc,a,c,rfl,mz,rfl⟩
    have hj:bX l=acc:=by
     rw [mz,<-hL,show ((y::r).map fun s=>[GV.v (sv s)]).length=(y::r).length by simp,bW];rfl
    rw [hj] at hb hlen |-
    have ct:acc≠[]:=by
     intro h0;rw [h0] at hlen;simp at hlen
    have abv:=QX acc a c ct G;refine D ?_;refine V [0,1] abv ?_;exact aj
end Go.Xg
namespace Go.Xg
open GV (U)
open Go.RowKit Go.Xw Go.Proofs Tryz
open Go.Xp (Tok Nd T)
open Go.Sp (Src)
open Go.Im (qn rO tr kB dJ iT wj)
attribute [local irreducible] GW GL GO YG GC GA be bg
mutual
def tT:T->GV
 | .mk n l=>.box [.v (ii n.kind),.v (ii n.at_),.v (ii n.n),.v (sv n.s),ints n.kids,.sl 1 (cQ l)] 0
def cQ:List T->List (List GV)
 | []=>[]
 | t::r=>[tT t]::cQ r
end
abbrev uT (t:T):GV:=.box [.v (ii t.n.kind),.v (ii t.n.at_),.v (ii t.n.n),.v (sv t.n.s),ints t.n.kids,.sl 1 (cQ t.kids)] 0
theorem Z9 (t:T):tT t=uT t:=by cases t;rw [tT];rfl
theorem lT (l:List T):cQ l=l.map fun t=>[uT t]:=by
 induction l with
 | nil=>rfl
 | cons t l ih=>rw [cQ,ih,Z9];rfl
theorem sI (l:List T):(cQ l).length=l.length:=by rw [lT];simp
theorem Lk (l:List T) (t:T):cQ (l++[t])=cQ l++[[uT t]]:=by rw [lT,lT];simp
theorem xo {l:List T} {i:Nat} {t:T} (h:l[i]?=some t):(cQ l)[i]?=some [uT t]:=by rw [lT,aP,h];rfl
def trG:Option (T × Nat)->GV
 | none=>.tup [U,U,.v (.bool false)]
 | some (t,e)=>.tup [uT t,.v (ii (e:Nat)),.v (.bool true)]
theorem SR (nodes:List Nd) (hl:nodes.length<=1099511627776) (hk:∀ n∈nodes,n.kids.length<=1099511627776):∀ (f a:Nat),nodes.length - a+1<=f->a<=1099511627776 ->
  GF prog 125 [.sl 5 (nodes.map ax),.v (ii (a:Nat))] [] (trG (qn nodes f a)) []:=by
 intro f
 induction f with
 | zero=>intro a h;omega
 | succ f ih =>
 intro a hf ha;rw [qn]
 cases hn:nodes[a]? with
 | none =>
  have mV:nodes.length<=a:=qG hn
  have hd:decide (((nodes.map ax).length:Int)<=(a:Int))=true:=by simpa using mV
  refine ah func125 ntmps125 ?_;refine sN ?_;exact ⟨_,gS,rfl,rfl⟩
 | some n =>
  have ak:=(bo hn).1
  have hd:decide (((nodes.map ax).length:Int)<=(a:Int))=false:=by simpa using ak
  have hr:(nodes.map ax)[a]?=some (ax n):=by rw [aP,hn];rfl
  have wW:=hk n (bA hn);simp only;generalize hR:rO (qn nodes f) n.kids (a+1) []=R;refine ah func125 ntmps125 ?_;refine GW.wk (Wk.wo (i:=0) (o:=5) 131 1 rfl rfl) ?_
  refine GW.range (n.kids.map fun i=>[GV.v (ii i)]).length (fun k fr Γ=>∃ next acc m rows,fr=[.sl 5 (nodes.map ax),.v (ii (a:Nat)),U,U,U,U,U,.loc 0 0,.v (ii (next:Nat)),U,U,U,U,U,U,U,U,U,U,U,U,U,U,U,U,U,U,U,U,U,ints n.kids,.v (ii ((n.kids.map fun i=>[GV.v (ii i)]).length:Int)),.v (ii (k:Nat)),U,U,U,U,U,U,U,U,U,U,U,U,U,U,U,U,U,U,U,U,U,U,U,U,U,U,U,U,U,U,U,U,U,U,U] /\
   Γ=[.box 170 [.v (ii n.kind),.v (ii n.at_),.v (ii n.n),.v (sv n.s),ints n.kids,.vec 1 m],.vec 131 1 0 rows]/\rows.length=m/\rows=cQ acc/\m=k/\a+1<=next/\next<=nodes.length/\rO (qn nodes f) (n.kids.drop k) next acc=R) ?_ (by simpa using wW) ?_ ?_ ?_
  ·exact ⟨_,_,Wk.aH ar,a+1,[],0,[],rfl,rfl,rfl,rfl,rfl,aE _,ak,hR⟩
  ·rintro k _ _ ⟨next,acc,m,rows,rfl,rfl,_⟩;exact dK
  ·rintro k _ _ fH ⟨next,acc,m,rows,rfl,rfl,hm,bK,tV,Km,kX,h⟩
   have fH:k < n.kids.length:=by simpa using fH
   have dy:n.kids[k]?=some n.kids[k]:=by simp [fH]
   have CT:(n.kids.map fun i=>[GV.v (ii i)])[k]?=some [.v (ii n.kids[k])]:=by rw [aP,dy];rfl
   rw [ju fH,rO] at h;generalize n.kids[k]=z at *
   by_cases hz:z=(next:Int)
   ·rw [ab hz] at h;subst hz
    have hz':((next:Int) != (next:Int))=false:=by simp
    have zr:=ih next G G
    cases hq:qn nodes f next with
    | none =>
     rw [hq] at h zr;subst h;refine D ?_;refine V [] zr ?_;refine sN ?_;exact ⟨_,gS,rfl,rfl⟩
    | some x =>
     obtain ⟨t,e⟩:=x;rw [hq] at h zr;simp only at h
     obtain ⟨s1,s2,_,_⟩:=Go.Im.Cv f next t e hq
     refine D ?_;refine V [] zr ?_;refine fk ?_;refine D ?_;exact ⟨rfl,rfl,_,_,Wk.aH ar,e,acc++[t],_,_,rfl,rfl,by simp [hm],by rw [Lk,bK],by omega,by omega,s2,h⟩
   ·rw [L hz] at h;subst h
    have hz':(z != (next:Int))=true:=by simpa using hz
    refine D ?_;refine sN ?_;exact ⟨_,gS,rfl,rfl⟩
  ·rintro _ _ ⟨next,acc,m,rows,rfl,rfl,hm,bK,tV,Km,kX,h⟩;rw [show n.kids.drop (n.kids.map fun i=>[GV.v (ii i)]).length=[] by simp,rO] at h;subst h;simp only;subst bK;refine ba ?_;refine GW.wk (Wk.qz (i:=0) (o:=5) (j:=1) rfl rfl rfl rfl hm) ?_
   by_cases h0:n.at_ < 0
   ·rw [ab h0]
    have uN:decide ((0:Int)<=n.at_)=false:=by simpa using h0
    refine D ?_;refine aL (aD 0 11 .nil) ?_;refine bx ?_;rw [uN];refine GW.wk (Wk.freeze (i:=0) rfl rfl rfl (aE _)) ?_;refine sN ?_;exact ⟨_,gS,rfl,rfl⟩
   ·rw [L h0]
    have uN:decide ((0:Int)<=n.at_)=true:=by simpa using h0
    refine D ?_;refine aL (aD 0 11 .nil) ?_;refine bx ?_;rw [uN];refine GW.wk (Wk.freeze (i:=0) rfl rfl rfl (aE _)) ?_;refine Ls ?_;exact ⟨rfl,rfl⟩
def DR (nodes:List Nd):Option (List T × Nat)->GV
 | none=>.tup [U,.v (.bool false)]
 | some (l,e)=>.tup [.sl 1 (cQ l),.v (.bool ((e:Int)==(nodes.length:Int)))]
theorem xG (p:Src) (hl:p.nodes.length<=1099511627776) (hk:∀ n∈p.nodes,n.kids.length<=1099511627776) (hf:p.fns.length<=1099511627776) :
  GF prog 66 [.agg (av p)] [] (DR p.nodes (kB p.nodes p.fns 0 [])) []:=by
 generalize hR:kB p.nodes p.fns 0 []=R;refine ah func66 ntmps66 ?_;refine GW.wk (Wk.Ek (t:=4) (a:=none) (c:=0) 131 1 rfl) ?_
 refine GW.range (p.fns.map au).length (fun k fr Γ=>∃ next acc m rows,fr=[U,.loc 0 0,U,U,.vec 1 m,.v (ii (next:Nat)),U,U,U,U,U,U,.sl 3 (p.fns.map au),.v (ii ((p.fns.map au).length:Int)),.v (ii (k:Nat)),U,U,U,U,U,U,U,U,U,U,U,U,U,U,U,U,U,U,U,U,U,U,U,U,U,U,U,U,U,U,U] /\
  Γ=[.box 33 (av p),.vec 131 1 0 rows]/\rows.length=m/\rows=cQ acc/\m=k/\next<=p.nodes.length/\kB p.nodes (p.fns.drop k) next acc=R) ?_ (by simpa using hf) ?_ ?_ ?_
 ·exact ⟨_,_,Wk.aH ar,0,[],0,[],rfl,rfl,rfl,rfl,rfl,aM _,hR⟩
 ·rintro k _ _ ⟨next,acc,m,rows,rfl,rfl,_⟩;exact dK
 ·rintro k _ _ fH ⟨next,acc,m,rows,rfl,rfl,hm,bK,tV,kX,h⟩
  have fH:k < p.fns.length:=by simpa using fH
  have dy:p.fns[k]?=some p.fns[k]:=by simp [fH]
  have CT:(p.fns.map au)[k]?=some (au p.fns[k]):=by rw [aP,dy];rfl
  rw [ju fH,kB] at h;generalize p.fns[k]=fn at *
  have O5:=SR p.nodes hl hk (p.nodes.length+1) next G G
  unfold tr at h
  cases hq:qn p.nodes (p.nodes.length+1) next with
  | none =>
   rw [hq] at h O5;subst h;refine D ?_;refine V [] O5 ?_;refine IM ?_;exact ⟨_,gS,rfl,rfl⟩
  | some x =>
   obtain ⟨t,e⟩:=x;rw [hq] at h O5;simp only at h
   obtain ⟨s1,s2,_,_⟩:=Go.Im.Cv _ next t e hq
   by_cases hb:fn.body=(next:Int)
   ·rw [ab hb] at h
    have bD:(fn.body != (next:Int))=false:=by simpa using hb
    refine D ?_;refine V [] O5 ?_;refine fk ?_;refine D ?_;exact ⟨rfl,rfl,_,_,(Wk.cut (n:=2) (aM _) rfl).trans (Wk.aH ar),e,acc++[t],_,_,rfl,rfl,by simp [hm],by rw [Lk,bK],by omega,s2,h⟩
   ·rw [L hb] at h;subst h
    have bD:(fn.body != (next:Int))=true:=by simpa using hb
    refine D ?_;refine V [] O5 ?_;refine IM ?_;exact ⟨_,gS,rfl,rfl⟩
 ·rintro _ _ ⟨next,acc,m,rows,rfl,rfl,hm,bK,tV,kX,h⟩;rw [show p.fns.drop (p.fns.map au).length=[] by simp,kB] at h;subst h;subst bK;refine ba ?_;refine GW.wk (Wk.jD (t:=4) rfl rfl rfl hm) ?_
  have OU:p.nodes.length=(p.nodes.map ax).length:=by simp
  unfold DR;rw [OU];refine D ?_;refine aL (aD 0 8 .nil) ?_;refine ao ?_;exact sM
end Go.Xg
namespace Go.Xg
open GV (U)
open Go.RowKit Go.Xw Go.Proofs Tryz
open Go.Xp (Tok Nd T bH one levels ja eP fi en dV)
open Go.Sp
attribute [local irreducible] GW GL GO YG GC GA be bg
structure PX where
 a:Value
 b:Value
 c:Value
 d:Value
 e:Value
abbrev cm (p:RS) (x:PX):Ob:=.box 188 [jP p.l,.v (ii p.i),.v (ii p.e),.v (ii p.code),.v (ii p.at_),.v x.a,.v x.b,.v x.c,.v x.d,.v x.e]
theorem tf (p:RS) (k:Nat) (x:PX) (hp:p.ok) (hk:k<=1):GF prog 207 [.loc 0 0,.v (ii (k:Nat))] [cm p x] (.agg (dQ (Go.Im.tok p k))) [cm p x]:=by
 obtain ⟨l8,ef⟩:=hp;unfold Go.Im.tok
 cases ht:p.l[p.i+k]? with
 | some t =>
  have hr:=lS ht;have ak:p.i+k < p.l.length:=(bo ht).1
  have hd:decide (((p.l.map dQ).length:Int)<=((p.i+k:Nat):Int))=false:=by simpa using by omega
  refine ah func207 ntmps207 ?_;refine aL (aD 0 12 .nil) ?_;refine bx ?_;refine aL (aD 0 12 (.a 12 .nil)) ?_;refine ao ?_;exact kH
 | none =>
  have ak:p.l.length<=p.i+k:=qG ht
  have hd:decide (((p.l.map dQ).length:Int)<=((p.i+k:Nat):Int))=true:=by simpa using by omega
  refine ah func207 ntmps207 ?_;refine aL (aD 0 12 .nil) ?_;refine ao ?_;exact kH
theorem GG (p:RS) (c a:Int) (x:PX):GF prog 245 [.loc 0 0,.v (ii c),.v (ii a)] [cm p x] (.tup []) [cm (p.fail c a) x]:=by
 unfold RS.fail
 by_cases h:p.code=0
 ·have h':(p.code==0)=true:=by simpa using h
  rw [ab h];refine ah func245 ntmps245 ?_;exact iK
 ·have h':(p.code==0)=false:=by simpa using h
  rw [L h];refine ah func245 ntmps245 ?_;exact iK
theorem AH (p:RS) (x:PX) (hp:p.ok):GF prog 208 [.loc 0 0] [cm p x] (.tup []) [cm (Go.Im.lE p) x]:=by
 have ht:=tf p 0 x hp aU;unfold Go.Im.lE;generalize Go.Im.tok p 0=t at *;have hf:=GG p 7 t.at_ x;refine ah func208 ntmps208 ?_;refine V [0] ht ?_;refine V [0] hf ?_;exact iK
theorem xL (p:RS) (d:Nat) (x:PX) (hp:p.ok):GF prog 247 [.loc 0 0,.v (ii (d:Nat))] [cm p x] (.v (.bool ((Go.Im.cr p d).code==0))) [cm (Go.Im.cr p d) x]:=by
 have ht:=tf p 0 x hp aU;unfold Go.Im.cr;generalize Go.Im.tok p 0=t at *
 by_cases h:d > 60
 ·have h':decide ((60:Int) < (d:Int))=true:=by simpa using by omega
  rw [ab h];have hf:=GG p 9 t.at_ x;generalize p.fail 9 t.at_=q at *;refine ah func247 ntmps247 ?_;refine V [0] ht ?_;refine V [0] hf ?_;exact aj
 ·have h':decide ((60:Int) < (d:Int))=false:=by simpa using by omega
  rw [L h];refine ah func247 ntmps247 ?_;exact aj
theorem lq (p:RS) (k:Nat) (s:ae) (x:PX) (hp:p.ok) (hk:k<=1):GF prog 205 [.loc 0 0,.v (ii (k:Nat)),.v (sv s)] [cm p x] (.v (.bool (Go.Im.is p k s))) [cm p x]:=by
 have ht:=tf p k x hp hk;unfold Go.Im.is;generalize Go.Im.tok p k=t at *
 cases h:(t.kind==3) with
 | true =>
  rw [Bool.true_and];refine ah func205 ntmps205 ?_;refine V [0] ht ?_;exact aj
 | false =>
  rw [Bool.false_and];refine ah func205 ntmps205 ?_;refine V [0] ht ?_;exact aj
theorem sA (p:RS) (x:PX) (hp:p.ok):GF prog 206 [.loc 0 0] [cm p x] (.v (sv (Go.Im.tok p 0).s)) [cm (Go.Im.bL p) x]:=by
 have ht:=tf p 0 x hp aU;have hw:=AH p x hp;have OX:=hp.2;have Fh:=hp.1;unfold Go.Im.bL;generalize Go.Im.tok p 0=t at *;have hf:=GG p 8 t.at_ x
 by_cases hc:p.code=0
 ·have dY:(p.code != 0)=false:=by simpa using hc
  rw [ab hc]
  by_cases I:t.kind=2
  ·have rW:(t.kind != 2)=false:=by simpa using I
   rw [ab I]
   by_cases hl:t.s.length > 12
   ·have kL:decide ((12:Int) < (t.s.length:Int))=true:=by simpa using by omega
    rw [ab hl];refine ah func206 ntmps206 ?_;refine V [0] ht ?_;refine V [0] hf ?_;exact aj
   ·have kL:decide ((12:Int) < (t.s.length:Int))=false:=by simpa using by omega
    rw [L hl];refine ah func206 ntmps206 ?_;refine V [0] ht ?_;exact aj
  ·have rW:(t.kind != 2)=true:=by simpa using I
   rw [L I];refine ah func206 ntmps206 ?_;refine V [0] ht ?_;refine V [0] hw ?_;exact aj
 ·have dY:(p.code != 0)=true:=by simpa using hc
  rw [L hc];refine ah func206 ntmps206 ?_;refine V [0] ht ?_;exact aj
theorem fM (p:RS) (s:ae) (x:PX) (hp:p.ok):GF prog 209 [.loc 0 0,.sl 1 [[.v (sv s)]]] [cm p x] (.tup []) [cm (Go.Im.want p s) x]:=by
 have hi:=lq p 0 s x hp aU;have hw:=AH p x hp;have OX:=hp.2;have Fh:=hp.1;unfold Go.Im.want;generalize Go.Im.lE p=q at *;have hr:([[GV.v (sv s)]]:List (List GV))[0]?=some [.v (sv s)]:=rfl;refine ah func209 ntmps209 ?_
 by_cases hc:p.code=0
 ·have dY:(p.code != 0)=false:=by simpa using hc
  rw [ab hc]
  cases h:Go.Im.is p 0 s with
  | true =>
   rw [h] at hi;rw [ab rfl];refine GW.range 1 (fun k fr Γ=>fr=[.loc 0 0,U,U,U,U,U,.sl 1 [[.v (sv s)]],.v (ii ((1:Nat):Int)),.v (ii (k:Nat)),U,U,U,U,U,U,U,U,U,U,U,U,U,U,U,U,U,U,U,U,U,U]/\((k=0/\Γ=[cm p x])\/(1<=k/\Γ=[cm p.next x]))) ?_ aU ?_ ?_ ?_
   ·exact ⟨_,_,Wk.aH ar,rfl,.inl ⟨rfl,rfl⟩⟩
   ·rintro k _ _ ⟨rfl,_⟩;exact dK
   ·rintro k _ _ hk ⟨rfl,⟨rfl,rfl⟩ | ⟨F,_⟩⟩
    ·refine D ?_;refine V [0] hi ?_;exact ⟨rfl,rfl,_,_,Wk.aH ar,rfl,.inr ⟨aE _,rfl⟩⟩
    ·omega
   ·rintro _ _ ⟨rfl,⟨F,_⟩ | ⟨_,rfl⟩⟩
    ·cases F
    ·exact iL
  | false =>
   rw [h] at hi;rw [L aU];refine GW.range 1 (fun k fr Γ=>fr=[.loc 0 0,U,U,U,U,U,.sl 1 [[.v (sv s)]],.v (ii ((1:Nat):Int)),.v (ii (k:Nat)),U,U,U,U,U,U,U,U,U,U,U,U,U,U,U,U,U,U,U,U,U,U]/\k=0/\Γ=[cm p x]) ?_ aU ?_ ?_ ?_
   ·exact kV
   ·rintro k _ _ ⟨rfl,_⟩;exact dK
   ·rintro k _ _ hk ⟨rfl,rfl,rfl⟩;refine D ?_;refine V [0] hi ?_;refine V [0] hw ?_;exact iK
   ·rintro _ _ ⟨rfl,F,_⟩;cases F
 ·have dY:(p.code != 0)=true:=by simpa using hc
  rw [L hc];refine GW.range 1 (fun k fr Γ=>fr=[.loc 0 0,U,U,U,U,U,.sl 1 [[.v (sv s)]],.v (ii ((1:Nat):Int)),.v (ii (k:Nat)),U,U,U,U,U,U,U,U,U,U,U,U,U,U,U,U,U,U,U,U,U,U]/\k=0/\Γ=[cm p x]) ?_ aU ?_ ?_ ?_
  ·exact kV
  ·rintro k _ _ ⟨rfl,_⟩;exact dK
  ·rintro k _ _ hk ⟨rfl,rfl,rfl⟩;exact iL
  ·rintro _ _ ⟨rfl,F,_⟩;cases F
end Go.Xg
namespace Go.Xg
open Go.RowKit Go.Xw Go.Proofs Tryz
open Go.Xp (Tok Nd T bH one levels)
open Go.Sp
attribute [local irreducible] GW GL GO YG GC GA be bg
mutual
def pT:T->GV
 | .mk n l=>.box [.v (ii n.kind),.v (ii n.at_),.v (ii n.n),.v (sv n.s),.v (.slice none 0 0),.sl 1 (lI l)] 0
def lI:List T->List (List GV)
 | []=>[]
 | t::r=>[pT t]::lI r
end
abbrev qT (t:T):GV:=.box [.v (ii t.n.kind),.v (ii t.n.at_),.v (ii t.n.n),.v (sv t.n.s),.v (.slice none 0 0),.sl 1 (lI t.kids)] 0
theorem Z5 (t:T):pT t=qT t:=by cases t;rw [pT];rfl
theorem iV (l:List T):lI l=l.map fun t=>[qT t]:=by
 induction l with
 | nil=>rfl
 | cons t l ih=>rw [lI,ih,Z5];rfl
theorem oo (l:List T):(lI l).length=l.length:=by rw [iV];simp
theorem xk (l:List T) (t:T):lI (l++[t])=lI l++[[qT t]]:=by rw [iV,iV];simp
theorem Dt {l:List T} {i:Nat} {t:T} (h:l[i]?=some t):(lI l)[i]?=some [qT t]:=by rw [iV,aP,h];rfl
theorem PM (k a:Int) (s:ae) (rows:List (List GV)):GF prog 246 [.v (ii k),.v (ii a),.v (sv s),.sl 1 rows] [] (.loc 0 0) [.box 170 [.v (ii k),.v (ii a),.v (ii 0),.v (sv s),.v (.slice none 0 0),.sl 1 rows]]:=by
 refine ah func246 ntmps246 ?_;refine GW.wk (Wk.cells 0 rfl (ds:=[.v (ii k),.v (ii a),.v (ii 0),.v (sv s),.v (.slice none 0 0),.sl 1 rows]) gS) ?_;refine GW.ret ?_;refine xP (n:=1) rfl dI rfl (aM _) rfl rfl ?_;exact ⟨rfl,rfl⟩
theorem fy (k a:Int) (s:ae) (l:List T) (rows:List (List GV)) (h:lI l=rows):GF prog 246 [.v (ii k),.v (ii a),.v (sv s),.sl 1 rows] [] (qT (one k a s l)) []:=by
 subst h;refine ah func246 ntmps246 ?_;refine GW.wk (Wk.cells 0 rfl (ds:=[.v (ii k),.v (ii a),.v (ii 0),.v (sv s),.v (.slice none 0 0),.sl 1 (lI l)]) gS) ?_;refine GW.wk (Wk.freeze (i:=0) rfl rfl rfl (aM _)) ?_;exact aj
theorem u7:GF prog 199 [] [] (.sl 1 (levels.map fun l=>[strs l])) []:=by
 refine ah func199 ntmps199 ?_
 iterate 10 (refine cD ?_)
 exact ay
end Go.Xg
namespace Go.Xg
open GV (U)
open Go.RowKit Go.Xw Go.Proofs Tryz
open Go.Xp (Tok Nd T levels dj bX aK aB)
open Go.Im (pF tE vt mM dB gY vi lA iy rF rG)
attribute [local irreducible] GW GL GO YG GC GA be bg
theorem decDigits_eq (n:Nat):Go.Lib.decDigits n=dj n:=by
 induction n using Nat.strongRecOn with
 | _ n ih =>
  unfold Go.Lib.decDigits dj;split
  ·rfl
  ·rw [ih (n / 10) G]
theorem UY (n:Int):Go.Lib.itoa n=pF n:=by
 unfold Go.Lib.itoa pF;rw [decDigits_eq,decDigits_eq]
theorem Ni (n:Int) (h0 : -9223372036854775808<=n) (F:n<=9223372036854775807):GF prog 157 [.v (ii n)] [] (.v (sv (pF n))) []:=by
 refine GF.X9 (vs:=[ii n]) fun K β w ht hf=>?_
 obtain ⟨E,z,mI⟩:=uE.all ht hf ht.pow (zs:=xl.map fun z=>Value.int .u64 z) aU (fun m o x hx=>by
  rw [aP] at hx;unfold yT;rw [L aU,ab rfl]
  cases hs:xl[o]? with
  | none=>rw [hs] at hx;cases hx
  | some y=>rw [hs] at hx;cases hx;rfl)
 have BU:Go.Lib.TabIs prog w "internal/strconv.uint64pow10" .u64 Go.Lib.pow10Tab:=by
  unfold Go.Lib.TabIs World.var?;rw [show prog.globalNamed "internal/strconv.uint64pow10" = some 3 by kernel_rfl,show Go.Lib.pow10Tab=xl by decide];simp only [Option.bind_some,mI]
 refine p7.FB (Calls.mono (strconv_Itoa n h0 F w BU) ?_);rintro e w' ⟨I,k,os,h3⟩;refine ⟨_,I,by rw [UY];rfl,?_⟩;subst h3;refine ⟨rfl,rfl,rfl,by simp [Go.Sort.grow,World.drewN],fun j hj _=>?_⟩;simp only [Go.Sort.grow,World.drewN];rw [Array.getElem?_append_left hj]
theorem R6 (l:List ae) (s:ae) (hl:l.length<=1099511627776):GF prog 200 [strs l,.box [.v (sv s)] 0] [] (.v (.bool (l.contains s))) []:=by
 have h:=iz l s hl;generalize l.contains s=b at *;refine ah func200 ntmps200 ?_;refine V [] h ?_;exact aj
def Ed (ls:List (List ae)) (s:ae):Int:=match ls.findIdx? (fun l=>l.contains s) with | some i=>(i:Int) | none => -1
theorem I5 (ls:List (List ae)) (s:ae) (hn:ls.length<=1099511627776) (hl:∀ l∈ls,l.length<=1099511627776) :
  GF prog 198 [.sl 1 (ls.map fun l=>[strs l]),.fn (.func 200) [] [.box [.v (sv s)] 0]] [] (.v (ii (Ed ls s))) []:=by
 have fJ:(ls.map fun l=>[strs l]).length=ls.length:=by simp
 refine ah func198 ntmps198 ?_;refine GW.range (ls.map fun l=>[strs l]).length (fun k fr Γ=>fr=[.sl 1 (ls.map fun l=>[strs l]),.fn (.func 200) [] [.box [.v (sv s)] 0],U,U,U,U,U,.v (ii ((ls.map fun l=>[strs l]).length:Int)),.v (ii (k:Nat)),U,U,U,U,U,U,U,U,U,U]/\Γ=[]/\(ls.take k).all (fun l=>!(l.contains s))=true) ?_ G ?_ ?_ ?_
 ·exact kV
 ·exact jd
 ·rintro k _ _ ak ⟨rfl,rfl,aY⟩;rw [fJ] at ak
  have dy:ls[k]?=some ls[k]:=by simp [ak]
  have hr:(ls.map fun l=>[strs l])[k]?=some [strs ls[k]]:=by rw [aP,dy];rfl
  have hc:=R6 ls[k] s (hl _ (getElem_mem ak))
  have bV:(ls.take (k+1)).all (fun l=>!(l.contains s))=((ls.take k).all (fun l=>!(l.contains s))&&!(ls[k].contains s)):=by rw [cq,dy,List.all_append];simp
  have A5:ls[k].contains s=true->Ed ls s=(k:Int):=fun h0=>by
   have:ls.findIdx? (fun l=>l.contains s)=some k:=by
    rw [List.findIdx?_eq_some_iff_getElem];refine ⟨ak,h0,fun j hj=>?_⟩;rw [gV] at aY;have:=aY ls[j] (by rw [List.mem_take_iff_getElem];exact ⟨j,by omega,rfl⟩);simpa using this
   unfold Ed;rw [this]
  generalize ls[k]=l at *
  cases hb:l.contains s with
  | true =>
   rw [hb] at hc;rw [A5 hb];refine D ?_;refine pk [] hc ?_;exact ay
  | false =>
   rw [hb] at hc bV;refine D ?_;refine pk [] hc ?_;refine D ?_;exact ⟨rfl,rfl,_,_,Wk.aH ar,rfl,rfl,by rw [bV,aY];rfl⟩
 ·rintro _ _ ⟨rfl,rfl,aY⟩;rw [fJ,bW] at aY
  have:ls.findIdx? (fun l=>l.contains s)=none:=by
   rw [List.findIdx?_eq_none_iff];intro x hx;rw [gV] at aY;simpa using aY x hx
  unfold Ed;rw [this];exact ay
theorem Fv (s:ae):GF prog 162 [.v (sv s)] [] (.v (ii (tE s))) []:=by
 have F:=u7;have I:=I5 levels s aU aU;rw [show tE s=Ed levels s from rfl];generalize Ed levels s=z at *;generalize levels=ls at *;refine ah func162 ntmps162 ?_;refine GL.wk (Wk.freeze (i:=0) rfl rfl rfl (aE _)) ?_;refine GN (by simp only [oU,ou];rfl) ?_;refine V [] F ?_;refine V [] I ?_;exact aj
end Go.Xg
namespace Go.Xg
open GV (U)
open Go.RowKit Go.Xw Go.Proofs Tryz
open Go.Xp (Tok Nd T levels dj bX aK aB)
open Go.Im (pF tE vt mM dB gY vi lA iy rF rG iT wj dJ)
attribute [local irreducible] GW GL GO YG GC GA be bg
theorem PA (t:T) (z:Int):GF prog 163 [uT t,.v (ii z)] [] (.v (.bool (mM t z))) []:=by
 have h:=Fv t.n.s;unfold mM
 cases hk:(t.n.kind==6) with
 | true =>
  generalize tE t.n.s=y at *;refine ah func163 ntmps163 ?_;refine V [] h ?_;exact aj
 | false =>
  refine ah func163 ntmps163 ?_;exact aj
theorem wa (t:T) (b:Bool) (x:ae) (hx:x.length<=1099511627776) (h:GF prog 114 [uT t] [] (.v (sv x)) []) :
  GF prog 161 [uT t,.v (.bool b)] [] (.v (sv (vt b x))) []:=by
 unfold vt
 cases b with
 | true =>
  refine ah func161 ntmps161 ?_;refine V [] h ?_;exact aj
 | false =>
  refine ah func161 ntmps161 ?_;refine V [] h ?_;exact aj
theorem R8 (ex:FuncId) [hf:aJ prog ex] (tx:T->ae) (l:List T) (h:∀ t∈l,GF prog ex [uT t] [] (.v (sv (tx t))) []) (hj:(bX (l.map tx)).length<=1099511627776) (hl:l.length<=1099511627776) :
  GF prog 160 [.sl 1 (cQ l),.v (.func (.func ex) #[] #[])] [] (.v (sv (bX (l.map tx)))) []:=by
 have qO:=sI l;have hJ:=Nj (l.map tx) hj (by simpa using hl);refine ah func160 ntmps160 ?_;refine GW.wk (Wk.Ek (t:=5) (a:=none) (c:=0) 9 1 rfl) ?_;refine GW.range (cQ l).length (fun k fr Γ=>∃ m rows,fr=[.sl 1 (cQ l),.v (.func (.func ex) #[] #[]),U,U,U,.vec 0 m,U,U,.sl 1 (cQ l),.v (ii ((cQ l).length:Int)),.v (ii (k:Nat)),U,U,U,U,U,U,U,U,U,U,U,U]/\Γ=[.vec 9 1 0 rows]/\rows.length=m/\rows=((l.take k).map tx).map (fun s=>[GV.v (sv s)])/\m=k) ?_ G ?_ ?_ ?_
 ·exact ⟨_,_,Wk.aH ar,0,[],rfl,rfl,rfl,rfl,rfl⟩
 ·rintro k _ _ ⟨m,rows,rfl,rfl,_⟩;exact dK
 ·rintro k _ _ ak ⟨m,rows,rfl,rfl,hm,bK,tV⟩;rw [qO] at ak
  have dy:l[k]?=some l[k]:=by simp [ak]
  have hr:=xo dy;have ht:=h l[k] (getElem_mem ak)
  have bV:((l.take (k+1)).map tx).map (fun s=>[GV.v (sv s)])=rows++[[.v (sv (tx l[k]))]]:=by rw [cq,dy,bK,gU,gU];rfl
  generalize l[k]=t at *;refine D ?_;refine jR [] ht ?_;refine D ?_;refine fk ?_;refine D ?_;exact ⟨rfl,rfl,_,_,Wk.aH ar,_,_,rfl,rfl,by simp [hm],bV.symm,by omega⟩
 ·rintro _ _ ⟨m,rows,rfl,rfl,hm,bK,tV⟩;rw [qO,bW] at bK;refine ba ?_;refine GW.wk (Wk.jD (t:=5) rfl rfl rfl hm) ?_;subst bK;refine D ?_;refine V [] hJ ?_;exact aj
theorem ZB {t:T} (h:dJ t.n.kind t.kids.length=true) (hk:t.n.kind=3\/t.n.kind=5):∃ a,t.kids=[a]:=by
 have:t.kids.length=1:=by
  unfold dJ at h
  rcases hk with hk | hk <;> rw [hk] at h <;> simp at h <;> omega
 match hl:t.kids,this with
 | [a],_=>exact ⟨a,rfl⟩
theorem ZC {t:T} (h:dJ t.n.kind t.kids.length=true) (hk:t.n.kind=6):∃ a b,t.kids=[a,b]:=by
 have:t.kids.length=2:=by
  unfold dJ at h;rw [hk] at h;simp at h;omega
 match hl:t.kids,this with
 | [a,b],_=>exact ⟨a,b,rfl⟩
theorem VR:∀ (N:Nat) (t:T),aK t<=N->iT t=true->rF t->lA t<=1099511627776->GF prog 114 [uT t] [] (.v (sv (dB t))) []:=by
 intro N
 induction N with
 | zero=>intro t h;rw [Go.Xp.fA] at h;omega
 | succ N ih =>
 intro t hN hk hn hw;have hlen:=Go.Im.xy _ t (aE _) hn;rw [Go.Xp.fA] at hN;rw [Go.Im.zG,aC,Go.Im.u5,gV] at hk;rw [Go.Im.sD] at hn
 have mZ:∀ a∈t.kids,GF prog 114 [uT a] [] (.v (sv (dB a))) []/\(dB a).length<=1099511627776:=fun a ha=>by
  have F:=Go.Im.vk ha;rw [Go.Im.qu] at hw;have h3:=Go.Im.kZ hn.2 ha
  have I:aK a<=aB t.kids:=by
   have:∀ (l:List T),a∈l->aK a<=aB l:=by
    intro l
    induction l with
    | nil=>intro h;cases h
    | cons b l ih2 =>
     intro h;rw [aB]
     rcases de h with rfl | h
     ·omega
     ·have:=ih2 h;omega
   exact this _ ha
  have h4:=Go.Im.xy _ a (aE _) h3;exact ⟨ih a G (hk.2 a ha) h3 G,by omega⟩
 rw [Go.Im.Qm] at hlen |-;unfold vi at hlen |-;have n8:=hk.1;have hkc:=@ZB t n8;have aa9:=@ZC t n8;have Xs:=Ni t.n.n hn.1.1 hn.1.2;have Kl:=Fv t.n.s
 have fH:t.kids.length<=1099511627776:=by
  have:=Go.Im.R4 t.kids;rw [Go.Im.qu] at hw;omega
 have Gd:=fun hj=>R8 114 dB t.kids (fun a ha=>(mZ a ha).1) hj fH
 rw [<-Go.Im.EC] at Gd
 have uW:t.n.s.length<=1099511627776:=by rw [Go.Im.qu] at hw;omega
 have TI:(bX (gY t.kids)).length<=1099511627776:=by
  have F:=Go.Im.B1 (gY t.kids)
  have I:((gY t.kids).map fun y=>y.length+2).sum<=iy t.kids:=by
   have:∀ (l:List T),rG l->((gY l).map fun y=>y.length+2).sum<=iy l:=by
    intro l
    induction l with
    | nil=>intro _;simp [gY]
    | cons a l ih2 =>
     intro h;rw [rG] at h;have F:=Go.Im.xy _ a (aE _) h.1;have I:=ih2 h.2;rw [gY,iy,List.map_cons,sum_cons];omega
   exact this _ hn.2
  rw [Go.Im.qu] at hw;omega
 have Gd:=Gd TI;clear TI;unfold uT;generalize gy:t.n.kind=kd at *
 by_cases F:kd=1
 ·subst F
  have cy:((1:Int)==1)=true:=by decide
  rw [ab rfl];refine ah func114 ntmps114 ?_;refine V [] Xs ?_;exact aj
 rw [L F] at hlen |-
 have g1:(kd==1)=false:=by simpa using F
 by_cases h3:kd=3
 ·subst h3
  have cy:((3:Int)==1)=false:=by decide
  have qC:((3:Int)==3)=true:=by decide
  rw [ab rfl] at hlen |-;obtain ⟨a,ha⟩:=hkc (.inl rfl);rw [ha] at mZ hlen |-;obtain ⟨c1,c2⟩:=mZ a (List.mem_singleton.2 rfl)
  have hr:(cQ [a])[0]?=some [uT a]:=by rw [lT];rfl
  simp only [gY,getD_cons_zero] at hlen |-;generalize cQ [a]=rows at *;generalize dB a=x at *;refine ah func114 ntmps114 ?_;refine aL (aD 0 12 (.a 12 (aD 13 3 .nil))) ?_;refine ao ?_;refine aI [] c1 ?_;exact ay
 rw [L h3] at hlen |-
 have g3:(kd==3)=false:=by simpa using h3
 by_cases h4:kd=4
 ·subst h4
  have cy:((4:Int)==1)=false:=by decide
  have qC:((4:Int)==3)=false:=by decide
  have f4:((4:Int)==4)=true:=by decide
  rw [ab rfl] at hlen |-;generalize cQ t.kids=rows at *;generalize bX (gY t.kids)=x at *;simp only [aO,length_cons,length_nil] at hlen;refine ah func114 ntmps114 ?_;refine aL (aD 0 10 (.a 10 (aD 11 3 .nil))) ?_;refine ao ?_;refine aI [] Gd ?_;exact ay
 rw [L h4] at hlen |-
 have g4:(kd==4)=false:=by simpa using h4
 by_cases h5:kd=5
 ·subst h5
  have cy:((5:Int)==1)=false:=by decide
  have qC:((5:Int)==3)=false:=by decide
  have f4:((5:Int)==4)=false:=by decide
  have f5:((5:Int)==5)=true:=by decide
  rw [ab rfl] at hlen |-;obtain ⟨a,ha⟩:=hkc (.inr rfl);rw [ha] at mZ hlen |-;obtain ⟨c1,c2⟩:=mZ a (List.mem_singleton.2 rfl)
  have hr:(cQ [a])[0]?=some [uT a]:=by rw [lT];rfl
  simp only [gY,getD_cons_zero] at hlen |-;have W6:=wa a (a.n.kind==6) (dB a) c2 c1;have oF:=Go.Im.Ac (a.n.kind==6) (dB a);generalize cQ [a]=rows at *;generalize hxx:vt (a.n.kind==6) (dB a)=x at *;refine ah func114 ntmps114 ?_;refine aL (aD 0 23 (.a 23 (.q 24 (.q 25 .nil)))) ?_;refine ao ?_;refine aI [] W6 ?_;exact ay
 rw [L h5] at hlen |-
 have g5:(kd==5)=false:=by simpa using h5
 by_cases h6:kd=6
 ·subst h6
  have cy:((6:Int)==1)=false:=by decide
  have qC:((6:Int)==3)=false:=by decide
  have f4:((6:Int)==4)=false:=by decide
  have f5:((6:Int)==5)=false:=by decide
  have f6:((6:Int)==6)=true:=by decide
  rw [ab rfl] at hlen |-;obtain ⟨a,b,ha⟩:=aa9 rfl;rw [ha] at mZ hlen |-;obtain ⟨c1,c2⟩:=mZ a (List.mem_cons_self);obtain ⟨d1,d2⟩:=mZ b (dw _ List.mem_cons_self)
  have hr:(cQ [a,b])[0]?=some [uT a]:=by rw [lT];rfl
  have jI:(cQ [a,b])[1]?=some [uT b]:=by rw [lT];rfl
  simp only [gY,getD_cons_zero,getD_cons_succ] at hlen |-
  have ab9 : -1<=tE t.n.s/\tE t.n.s<=9:=by
   unfold tE
   cases hf:levels.findIdx? (fun l=>l.contains t.n.s) with
   | none=>simp
   | some i =>
    rw [List.findIdx?_eq_some_iff_getElem] at hf;have:=hf.1
    have h9:levels.length=9:=by decide
    simp only;omega
  generalize tE t.n.s=lv at *;have gM:=PA a lv;have kW:=PA b (lv+1);have W6:=wa a (mM a lv) (dB a) c2 c1;have aaU:=wa b (mM b (lv+1)) (dB b) d2 d1;generalize cQ [a,b]=rows at *;generalize hxx:vt (mM a lv) (dB a)=x at *;generalize hyy:vt (mM b (lv+1)) (dB b)=y at *;simp only [aO,length_cons,length_nil] at hlen;refine ah func114 ntmps114 ?_;refine V [] Kl ?_;refine aL (aD 0 14 (aD 17 5 (aD 24 15 (.a 14 (.a 15 (.q 16 (.q 22 (.q 23 (.a 39 (.a 40 (.q 41 (.q 42 .nil)))))))))))) ?_;refine ao ?_;refine z6 [] gM ?_;refine ao ?_;refine aI [] W6 ?_;refine z6 [] kW ?_;refine ao ?_;refine aI [] aaU ?_;exact ay
 rw [L h6]
 have g6:(kd==6)=false:=by simpa using h6
 refine ah func114 ntmps114 ?_;exact aj
end Go.Xg
set_option maxHeartbeats 2000000
namespace Go.Xg
open GV (U)
open Go.RowKit Go.Xw Go.Proofs Tryz
open Go.Xp (Tok Nd T levels dj bX aK aB)
open Go.Im
attribute [local irreducible] GW GL GO YG GC GA be bg
abbrev jT (f:FuncId):Value:=.func (.func f) #[] #[]
theorem RD (l:List ae) (d:Nat) (hb:(gP l d).length<=1099511627776) (hl:l.length<=1099511627776):GF prog 115 [strs l,.v (ii (d:Nat))] [] (.v (sv (gP l d))) []:=by
 have fJ:(l.map fun s=>[GV.v (sv s)]).length=l.length:=by simp
 have OJ:=uJ l [123,32];unfold gP at hb |-;rw [aO,OJ] at hb;refine ah func115 ntmps115 ?_;refine GW.range (l.map fun s=>[GV.v (sv s)]).length (fun k fr Γ=>fr=[strs l,U,U,U,U,.v (sv (tP [123,32] (l.take k))),U,U,strs l,.v (ii ((l.map fun s=>[GV.v (sv s)]).length:Int)),.v (ii (k:Nat)),U,U,U,U,U,U,U,U,U,U]/\Γ=[]) ?_ G ?_ ?_ ?_
 ·exact fL
 ·rintro k _ _ ⟨rfl,rfl⟩;exact dK
 ·rintro k _ _ ak ⟨rfl,rfl⟩;rw [fJ] at ak
  have dy:l[k]?=some l[k]:=by simp [ak]
  have CT:(l.map fun s=>[GV.v (sv s)])[k]?=some [.v (sv l[k])]:=by rw [aP,dy];rfl
  have F:=uJ (l.take (k+1)) [123,32];have I:=Qg l (k+1)
  have hz:lO (l.take (k+1))=lO (l.take k)+(l[k].length+1):=by rw [cq,dy,IA];simp [lO]
  have h3:=uJ (l.take k) [123,32];rw [show l.take (k+1)=l.take k++[l[k]] by rw [cq,dy];rfl,NF] at |-;generalize l[k]=z at *;generalize tP [123,32] (l.take k)=acc at *;simp only [length_cons,length_nil] at h3 hb
  have ab0:acc.length+z.length+3<=1099511627777:=by omega
  refine D ?_;exact ⟨rfl,rfl,_,_,Wk.aH ar,rfl,rfl⟩
 ·rintro _ _ ⟨rfl,rfl⟩;rw [fJ,bW];generalize tP [123,32] l=acc at *;simp only [aO,length_cons,length_nil] at OJ hb;exact ay
theorem ZR (ex bk:FuncId) [hf:aJ prog ex] (tx:T->ae) (t a:T) (k:Nat) (hk:t.kids[k]?=some a) (h:GF prog ex [uT a] [] (.v (sv (tx a))) []) :
  GF prog 240 [.v (ii (k:Nat)),.box [.v (jT ex),.v (jT bk)] 0,.box [uT t] 0] [] (.v (sv (tx a))) []:=by
 have hr:=xo hk;generalize tx a=x at *;refine ah func240 ntmps240 ?_;refine aL (aD 0 9 (.a 9 (.q 10 .nil))) ?_;refine ao ?_;refine z6 [] h ?_;refine ao ?_;exact ay
structure Wr (ex bk:FuncId) (tx:T->ae) (inl:List ae->Nat->ae):Prop where
 expr:∀ a,iT a=true->rF a->lA a<=1099511627776->GF prog ex [uT a] [] (.v (sv (tx a))) []
 block:∀ l (d:Nat),(inl l d).length<=1099511627776->l.length<=1099511627776->d<=1099511627776->GF prog bk [strs l,.v (ii (d:Nat))] [] (.v (sv (inl l d))) []
 mem:∀ l d s,s∈l->s.length<=(inl l d).length
theorem AR (ex bk:FuncId) [he:aJ prog ex] [hb:aJ prog bk] (tx:T->ae) (inl:List ae->Nat->ae) (W:Wr ex bk tx inl) (t:T) (d:Nat) (hd:d+1<=1099511627776) (hl:t.kids.length<=1099511627776) (hlen:(oC tx inl d t).length<=1099511627776)
  (h:∀ a∈t.kids,(lz tx inl (d+1) a).length<=1099511627776->GF prog 197 [.agg [.v (jT ex),.v (jT bk)],uT a,.v (ii ((d+1:Nat):Int))] [] (.v (sv (lz tx inl (d+1) a))) []) :
  GF prog 159 [.agg [.v (jT ex),.v (jT bk)],uT t,.v (ii (d:Nat))] [] (.v (sv (oC tx inl d t))) []:=by
 have qO:=sI t.kids;rw [Nz,Ld] at hlen |-;have ey:=W.block (t.kids.map (lz tx inl (d+1))) d hlen (by simpa using hl) G
 have hk:∀ a∈t.kids,GF prog 197 [.agg [.v (jT ex),.v (jT bk)],uT a,.v (ii ((d+1:Nat):Int))] [] (.v (sv (lz tx inl (d+1) a))) []:=fun a ha =>
  h a ha (kA (W.mem _ d _ (mP.2 ⟨a,ha,rfl⟩)) hlen)
 generalize inl (t.kids.map (lz tx inl (d+1))) d=y at *;refine ah func159 ntmps159 ?_;refine GW.wk (Wk.Ek (t:=7) (a:=none) (c:=0) 9 1 rfl) ?_;refine GW.range (cQ t.kids).length (fun k fr Γ=>∃ m rows,fr=[U,U,.v (ii (d:Nat)),.loc 0 0,U,U,U,.vec 1 m,U,U,U,U,U,.sl 1 (cQ t.kids),.v (ii ((cQ t.kids).length:Int)),.v (ii (k:Nat)),U,U,U,U,U,U,U,U,U,U,U,U,U,U,U,U,U]/\Γ=[.box 172 [.v (jT ex),.v (jT bk)],.vec 9 1 0 rows]/\rows.length=m/\rows=((t.kids.take k).map (lz tx inl (d+1))).map (fun s=>[GV.v (sv s)])/\m=k) ?_ G ?_ ?_ ?_
 ·exact ⟨_,_,Wk.aH ar,0,[],rfl,rfl,rfl,rfl,rfl⟩
 ·rintro k _ _ ⟨m,rows,rfl,rfl,_⟩;exact dK
 ·rintro k _ _ ak ⟨m,rows,rfl,rfl,hm,bK,tV⟩;rw [qO] at ak
  have dy:t.kids[k]?=some t.kids[k]:=by simp [ak]
  have hr:=xo dy;have ht:=hk t.kids[k] (getElem_mem ak)
  have bV:((t.kids.take (k+1)).map (lz tx inl (d+1))).map (fun s=>[GV.v (sv s)])=rows++[[.v (sv (lz tx inl (d+1) t.kids[k]))]]:=by rw [cq,dy,bK,gU,gU];rfl
  generalize t.kids[k]=kid at *;generalize lz tx inl (d+1) kid=z at *;refine D ?_;refine V [] ht ?_;refine fk ?_;refine D ?_;exact ⟨rfl,rfl,_,_,Wk.aH ar,_,_,rfl,rfl,by simp [hm],bV.symm,by omega⟩
 ·rintro _ _ ⟨m,rows,rfl,rfl,hm,bK,tV⟩;rw [qO,bW] at bK;refine ba ?_;refine GW.wk (Wk.jD (t:=7) rfl rfl rfl hm) ?_;subst bK;refine D ?_;refine jR [] ey ?_;exact ay
theorem ZD {t:T} {n:Nat} (h:dJ t.n.kind t.kids.length=true) (hk:(n=1/\(t.n.kind=13\/t.n.kind=7\/t.n.kind=11\/t.n.kind=12))\/(n=2/\(t.n.kind=8\/t.n.kind=10))):t.kids.length=n:=by
 unfold dJ at h
 rcases hk with ⟨rfl,hk⟩ | ⟨rfl,hk⟩
 ·rcases hk with hk | hk | hk | hk <;> rw [hk] at h <;> simp at h <;> omega
 ·rcases hk with hk | hk <;> rw [hk] at h <;> simp at h <;> omega
theorem XV {t:T} (h:dJ t.n.kind t.kids.length=true) (hk:t.n.kind=9):t.kids.length=2\/t.kids.length=3:=by
 unfold dJ at h;rw [hk] at h;simp at h;omega
theorem Jz (ex bk:FuncId) [he:aJ prog ex] [hb:aJ prog bk] (tx:T->ae) (inl:List ae->Nat->ae) (W:Wr ex bk tx inl):∀ (N:Nat) (t:T),aK t<=N->iT t=true->rF t->lA t<=1099511627776->∀ d,d+aK t<=1099511627776->(lz tx inl d t).length<=1099511627776 ->
  GF prog 197 [.agg [.v (jT ex),.v (jT bk)],uT t,.v (ii (d:Nat))] [] (.v (sv (lz tx inl d t))) []:=by
 intro N
 induction N with
 | zero=>intro t h;rw [Go.Xp.fA] at h;omega
 | succ N ih =>
 intro t hN hk hn hw d hd hlen;have jc:=W.expr t hk hn hw;rw [Go.Xp.fA] at hN hd;rw [Go.Im.zG,aC,Go.Im.u5,gV] at hk;rw [Go.Im.sD] at hn;have hwe:=Go.Im.qu t
 have Ma:∀ (l:List T) (a:T),a∈l->aK a<=aB l:=by
  intro l
  induction l with
  | nil=>intro a h;cases h
  | cons b l ih2 =>
   intro a h;rw [aB]
   rcases de h with rfl | h
   ·omega
   ·have:=ih2 a h;omega
 have eO:=fun (k:Nat) (a:T) (mG:t.kids[k]?=some a)=>ZR ex bk tx t a k mG (W.expr a (hk.2 a (bA mG)) (Go.Im.kZ hn.2 (bA mG)) (by have:=Go.Im.vk (bA mG);omega))
 have ey:∀ a∈t.kids,(oC tx inl d a).length<=1099511627776->GF prog 159 [.agg [.v (jT ex),.v (jT bk)],uT a,.v (ii (d:Nat))] [] (.v (sv (oC tx inl d a))) []:=fun a ha Xm=>by
  have F:=Ma _ a ha;have I:=Go.Im.vk ha;have h3:=hk.2 a ha;have h4:=Go.Im.kZ hn.2 ha;rw [Go.Im.zG,aC,Go.Im.u5,gV] at h3;rw [Go.Im.sD] at h4;have h5:=Go.Xp.fA a;have h6:=Go.Xp.c6 a.kids;have h7:=Go.Im.qu a
  refine AR ex bk tx inl W a d G G Xm fun b eA hlb=>?_
  have h8:=Ma _ b eA;have h9:=Go.Im.vk eA;exact ih b G (h3.2 b eA) (Go.Im.kZ h4.2 eA) G (d+1) G hlb
 rw [Qd] at hlen |-;unfold yP at hlen |-;rw [JL] at hlen |-;have n8:=@ZD t;have aba:=@XV t hk.1
 have n8:=fun n=>@n8 n hk.1
 unfold uT at jc |-;unfold uT at eO;generalize gy:t.n.kind=kd at *
 by_cases eW:kd=13
 ·subst eW
  have f13:((13:Int)==13)=true:=by decide
  rw [ab rfl] at hlen |-;have gM:=n8 1 (.inl ⟨rfl,.inl rfl⟩)
  obtain ⟨a,ha⟩:∃ a,t.kids=[a]:=by
   match hl:t.kids,gM with
   | [a],_=>exact ⟨a,rfl⟩
  have h0:=eO 0 a (by rw [ha];rfl);rw [ha] at hlen |-;rw [ha] at h0;simp only [List.map_cons,map_nil,getD_cons_zero,aO,length_cons,length_nil] at hlen |-;generalize tx a=x at *;generalize cQ [a]=rows at *;refine cL func197 ntmps197 ?_;refine jS ?_;refine GL.wk (Wk.freeze (i:=0) rfl rfl rfl (aM _)) ?_;refine GL.wk (Wk.freeze (i:=1) rfl rfl rfl (aM _)) ?_;refine GN (by simp only [oU,ou];rfl) ?_;refine D ?_;refine aL (aD 0 8 (.a 8 (aD 9 3 .nil))) ?_;refine ao ?_;refine po [] h0 ?_;refine ao ?_;exact ay
 rw [L eW] at hlen |-
 have g13:(kd==13)=false:=by simpa using eW
 by_cases h7:kd=7
 ·subst h7
  have f13:((7:Int)==13)=false:=by decide
  have f7:((7:Int)==7)=true:=by decide
  rw [ab rfl] at hlen |-;have gM:=n8 1 (.inl ⟨rfl,.inr (.inl rfl)⟩)
  obtain ⟨a,ha⟩:∃ a,t.kids=[a]:=by
   match hl:t.kids,gM with
   | [a],_=>exact ⟨a,rfl⟩
  have h0:=eO 0 a (by rw [ha];rfl);rw [ha] at hlen |-;rw [ha] at h0;simp only [List.map_cons,map_nil,getD_cons_zero,aO,length_cons,length_nil] at hlen |-;generalize tx a=x at *;generalize cQ [a]=rows at *;refine cL func197 ntmps197 ?_;refine jS ?_;refine GL.wk (Wk.freeze (i:=0) rfl rfl rfl (aM _)) ?_;refine GL.wk (Wk.freeze (i:=1) rfl rfl rfl (aM _)) ?_;refine GN (by simp only [oU,ou];rfl) ?_;refine D ?_;refine aL (aD 0 7 (.a 7 (aD 8 3 .nil))) ?_;refine ao ?_;refine po [] h0 ?_;refine ao ?_;exact ay
 rw [L h7] at hlen |-
 have g7:(kd==7)=false:=by simpa using h7
 by_cases h8:kd=8
 ·subst h8
  have f13:((8:Int)==13)=false:=by decide
  have f7:((8:Int)==7)=false:=by decide
  have f8:((8:Int)==8)=true:=by decide
  rw [ab rfl] at hlen |-;have gM:=n8 2 (.inr ⟨rfl,.inl rfl⟩)
  obtain ⟨a,b,ha⟩:∃ a b,t.kids=[a,b]:=by
   match hl:t.kids,gM with
   | [a,b],_=>exact ⟨a,b,rfl⟩
  have h0:=eO 0 a (by rw [ha];rfl);have F:=eO 1 b (by rw [ha];rfl);rw [ha] at hlen |-;rw [ha] at h0 F;simp only [List.map_cons,map_nil,getD_cons_zero,getD_cons_succ,aO,length_cons,length_nil] at hlen |-;generalize tx a=x at *;generalize tx b=y at *;generalize cQ [a,b]=rows at *;refine cL func197 ntmps197 ?_;refine jS ?_;refine GL.wk (Wk.freeze (i:=0) rfl rfl rfl (aM _)) ?_;refine GL.wk (Wk.freeze (i:=1) rfl rfl rfl (aM _)) ?_;refine GN (by simp only [oU,ou];rfl) ?_;refine D ?_;refine aL (aD 0 7 (.q 10 (.a 7 (.q 8 (.q 9 (.a 11 (aD 12 3 .nil))))))) ?_;refine ao ?_;refine po [] h0 ?_;refine ao ?_;refine po [] F ?_;refine ao ?_;exact ay
 rw [L h8] at hlen |-
 have g8:(kd==8)=false:=by simpa using h8
 by_cases h9:kd=9
 ·subst h9
  have f13:((9:Int)==13)=false:=by decide
  have f7:((9:Int)==7)=false:=by decide
  have f8:((9:Int)==8)=false:=by decide
  have f9:((9:Int)==9)=true:=by decide
  rw [ab rfl] at hlen |-
  rcases aba rfl with gM | gM
  ·skip
   obtain ⟨a,b,ha⟩:∃ a b,t.kids=[a,b]:=by
    match hl:t.kids,gM with
    | [a,b],_=>exact ⟨a,b,rfl⟩
   have h0:=eO 0 a (by rw [ha];rfl)
   have jI:(cQ [a,b])[1]?=some [uT b]:=by rw [lT];rfl
   have Ht:(cQ [a,b]).length=2:=by rw [sI];rfl
   have oY:(((cQ [a,b]).length:Int)==3)=false:=by rw [Ht];decide
   rw [ha] at hlen |-;rw [ha] at h0;rw [L (by simp)] at hlen |-;simp only [List.map_cons,map_nil,getD_cons_zero,getD_cons_succ,aO,length_cons,length_nil] at hlen |-;have A2:=ey b (by rw [ha];simp) G;generalize tx a=x at *;generalize oC tx inl d b=y at *;clear ey eO ih;generalize cQ [a,b]=rows at *;refine cL func197 ntmps197 ?_;refine jS ?_;refine GL.wk (Wk.freeze (i:=0) rfl rfl rfl (aM _)) ?_;refine GL.wk (Wk.freeze (i:=1) rfl rfl rfl (aM _)) ?_;refine GN (by simp only [oU,ou];rfl) ?_;refine D ?_;refine aL (.q 0 (aD 4 8 (.a 1 (.q 2 (.q 3 (.a 12 (.q 13 (.q 14 .nil)))))))) ?_;refine ao ?_;refine po [] h0 ?_;refine ao ?_;refine aI [] A2 ?_;exact ay
  ·skip
   obtain ⟨a,b,c,ha⟩:∃ a b c,t.kids=[a,b,c]:=by
    match hl:t.kids,gM with
    | [a,b,c],_=>exact ⟨a,b,c,rfl⟩
   have h0:=eO 0 a (by rw [ha];rfl)
   have jI:(cQ [a,b,c])[1]?=some [uT b]:=by rw [lT];rfl
   have eg:(cQ [a,b,c])[2]?=some [uT c]:=by rw [lT];rfl
   have Ht:(cQ [a,b,c]).length=3:=by rw [sI];rfl
   have oY:(((cQ [a,b,c]).length:Int)==3)=true:=by rw [Ht];decide
   rw [ha] at hlen |-;rw [ha] at h0;rw [ab (by simp)] at hlen |-;simp only [List.map_cons,map_nil,getD_cons_zero,getD_cons_succ,aO,length_cons,length_nil] at hlen |-;have A2:=ey b (by rw [ha];simp) G;have eA:=ey c (by rw [ha];simp) G;generalize tx a=x at *;generalize oC tx inl d b=y at *;generalize oC tx inl d c=z at *;clear ey eO ih;generalize cQ [a,b,c]=rows at *;refine cL func197 ntmps197 ?_;refine jS ?_;refine GL.wk (Wk.freeze (i:=0) rfl rfl rfl (aM _)) ?_;refine GL.wk (Wk.freeze (i:=1) rfl rfl rfl (aM _)) ?_;refine GN (by simp only [oU,ou];rfl) ?_;refine D ?_;refine aL (.q 0 (aD 4 8 (.a 1 (.q 2 (.q 3 (.a 12 (.q 13 (.q 14 .nil)))))))) ?_;refine ao ?_;refine po [] h0 ?_;refine ao ?_;refine aI [] A2 ?_;refine D ?_;refine aL (aD 0 9 (.a 9 (aD 10 3 .nil))) ?_;refine ao ?_;refine aI [] eA ?_;exact ay
 rw [L h9] at hlen |-
 have g9:(kd==9)=false:=by simpa using h9
 by_cases mF:kd=10
 ·subst mF
  have f13:((10:Int)==13)=false:=by decide
  have f7:((10:Int)==7)=false:=by decide
  have f8:((10:Int)==8)=false:=by decide
  have f9:((10:Int)==9)=false:=by decide
  have f10:((10:Int)==10)=true:=by decide
  rw [ab rfl] at hlen |-;have gM:=n8 2 (.inr ⟨rfl,.inr rfl⟩)
  ·skip
   obtain ⟨a,b,ha⟩:∃ a b,t.kids=[a,b]:=by
    match hl:t.kids,gM with
    | [a,b],_=>exact ⟨a,b,rfl⟩
   have h0:=eO 0 a (by rw [ha];rfl)
   have jI:(cQ [a,b])[1]?=some [uT b]:=by rw [lT];rfl
   have Ht:(cQ [a,b]).length=2:=by rw [sI];rfl
   have oY:(((cQ [a,b]).length:Int)==3)=false:=by rw [Ht];decide
   rw [ha] at hlen |-;rw [ha] at h0;simp only [List.map_cons,map_nil,getD_cons_zero,getD_cons_succ,aO,length_cons,length_nil] at hlen |-;have A2:=ey b (by rw [ha];simp) G;generalize tx a=x at *;generalize oC tx inl d b=y at *;clear ey eO ih;generalize cQ [a,b]=rows at *;refine cL func197 ntmps197 ?_;refine jS ?_;refine GL.wk (Wk.freeze (i:=0) rfl rfl rfl (aM _)) ?_;refine GL.wk (Wk.freeze (i:=1) rfl rfl rfl (aM _)) ?_;refine GN (by simp only [oU,ou];rfl) ?_;refine D ?_;refine aL (.q 0 (aD 4 8 (.a 1 (.q 2 (.q 3 (.a 12 (.q 13 (.q 14 .nil)))))))) ?_;refine ao ?_;refine po [] h0 ?_;refine ao ?_;refine aI [] A2 ?_;exact ay
 rw [L mF] at hlen |-
 have g10:(kd==10)=false:=by simpa using mF
 by_cases qd:kd=11
 ·subst qd
  have f13:((11:Int)==13)=false:=by decide
  have f7:((11:Int)==7)=false:=by decide
  have f8:((11:Int)==8)=false:=by decide
  have f9:((11:Int)==9)=false:=by decide
  have f10:((11:Int)==10)=false:=by decide
  have f11:((11:Int)==11)=true:=by decide
  rw [ab rfl] at hlen |-;have gM:=n8 1 (.inl ⟨rfl,.inr (.inr (.inl rfl))⟩)
  obtain ⟨a,ha⟩:∃ a,t.kids=[a]:=by
   match hl:t.kids,gM with
   | [a],_=>exact ⟨a,rfl⟩
  have h0:=eO 0 a (by rw [ha];rfl);rw [ha] at hlen |-;rw [ha] at h0;simp only [List.map_cons,map_nil,getD_cons_zero,aO,length_cons,length_nil] at hlen |-;generalize tx a=x at *;generalize cQ [a]=rows at *;refine cL func197 ntmps197 ?_;refine jS ?_;refine GL.wk (Wk.freeze (i:=0) rfl rfl rfl (aM _)) ?_;refine GL.wk (Wk.freeze (i:=1) rfl rfl rfl (aM _)) ?_;refine GN (by simp only [oU,ou];rfl) ?_;refine D ?_;refine pk [] h0 ?_;exact ay
 rw [L qd] at hlen |-
 have g11:(kd==11)=false:=by simpa using qd
 by_cases pO:kd=12
 ·subst pO
  have f13:((12:Int)==13)=false:=by decide
  have f7:((12:Int)==7)=false:=by decide
  have f8:((12:Int)==8)=false:=by decide
  have f9:((12:Int)==9)=false:=by decide
  have f10:((12:Int)==10)=false:=by decide
  have f11:((12:Int)==11)=false:=by decide
  have f12:((12:Int)==12)=true:=by decide
  rw [ab rfl] at hlen |-;have gM:=n8 1 (.inl ⟨rfl,.inr (.inr (.inr rfl))⟩)
  obtain ⟨a,ha⟩:∃ a,t.kids=[a]:=by
   match hl:t.kids,gM with
   | [a],_=>exact ⟨a,rfl⟩
  have h0:=eO 0 a (by rw [ha];rfl);rw [ha] at hlen |-;rw [ha] at h0;simp only [List.map_cons,map_nil,getD_cons_zero,aO,length_cons,length_nil] at hlen |-;generalize tx a=x at *;generalize cQ [a]=rows at *;refine cL func197 ntmps197 ?_;refine jS ?_;refine GL.wk (Wk.freeze (i:=0) rfl rfl rfl (aM _)) ?_;refine GL.wk (Wk.freeze (i:=1) rfl rfl rfl (aM _)) ?_;refine GN (by simp only [oU,ou];rfl) ?_;refine D ?_;refine pk [] h0 ?_;exact ay
 rw [L pO] at hlen |-
 have g12:(kd==12)=false:=by simpa using pO
 clear ey eO ih;generalize tx t=x at *;refine cL func197 ntmps197 ?_;refine jS ?_;refine GL.wk (Wk.freeze (i:=0) rfl rfl rfl (aM _)) ?_;refine GL.wk (Wk.freeze (i:=1) rfl rfl rfl (aM _)) ?_;refine GN (by simp only [oU,ou];rfl) ?_;refine D ?_;refine jR [] jc ?_;exact ay
end Go.Xg
namespace Go.Xg
open GV (U)
open Go.RowKit Go.Xw Go.Proofs Tryz
open Go.Xp (Tok Nd T Ar levels dj bX aK aB)
open Go.Sp (Src)
open Go.Im
attribute [local irreducible] GW GL GO YG GC GA be bg
theorem RV (ex bk:FuncId) [he:aJ prog ex] [hb:aJ prog bk] (tx:T->ae) (inl:List ae->Nat->ae) (W:Wr ex bk tx inl) (p:Src) (trees:List T) (hlen:(ox tx inl p trees).length<=1099511627776) (hft:p.fns.length=trees.length)
  (hg:p.globals.length<=1099511627776) (ha:p.arrays.length<=1099511627776) (hf:p.fns.length<=1099511627776) (kK:∀ a∈p.arrays,-9223372036854775808<=a.size/\a.size<=9223372036854775807) (Fi:∀ f∈p.fns,f.params.length<=1099511627776)
  (ht:∀ t∈trees,iT t=true/\rF t/\lA t<=1099511627776/\aK t+1<=1099511627776) :
  GF prog 113 [.agg (av p),.sl 1 (cQ trees),.v (jT ex),.v (jT bk)] [] (.v (sv (ox tx inl p trees))) []:=by
 have hmg:(p.globals.map fun s=>[GV.v (sv s)]).length=p.globals.length:=by simp
 have l7:(p.arrays.map az).length=p.arrays.length:=by simp
 have hmf:(p.fns.map au).length=p.fns.length:=by simp
 have l2:=DU (cy tx inl) (p.fns.zip trees) (dW a1 (dW g1 [] p.globals) p.arrays);have l1:=DU a1 p.arrays (dW g1 [] p.globals);unfold ox at hlen |-;refine ah func113 ntmps113 ?_;refine GW.wk (Wk.Ek (t:=9) (a:=none) (c:=0) 5 1 rfl) ?_;refine GW.range (p.globals.map fun s=>[GV.v (sv s)]).length (fun k fr Γ=>∃ acc m rows,fr=[U,.sl 1 (cQ trees),.v (jT ex),.v (jT bk),.loc 0 0,U,U,U,U,.vec 1 m,U,U,U,U,U,U,U,U,strs p.globals,.v (ii ((p.globals.map fun s=>[GV.v (sv s)]).length:Int)),.v (ii (k:Nat)),U,U,U,U,U,U,U,U,U,U,U,U,U,U,U,U,U,U,U,U,U,U,U,U,U,U,U,U,U,U,U,U,U,U,U,U,U,U,U,U,U,U,U,U,U,U,U,U,U,U,U,U,U,U,U,U,U,U,U,U,U]/\Γ=[.box 33 (av p),.vec 5 1 0 rows]/\rows.length=m/\rows=cW acc/\acc=dW g1 [] (p.globals.take k)) ?_ G ?_ ?_ ?_
 ·exact ⟨_,_,Wk.aH ar,[],0,[],rfl,rfl,rfl,rfl,rfl⟩
 ·rintro k _ _ ⟨acc,m,rows,rfl,rfl,_⟩;exact dK
 ·rintro k _ _ ak ⟨acc,m,rows,rfl,rfl,hm,bK,mz⟩;rw [hmg] at ak
  have dy:p.globals[k]?=some p.globals[k]:=by simp [ak]
  have CT:(p.globals.map fun s=>[GV.v (sv s)])[k]?=some [.v (sv p.globals[k])]:=by rw [aP,dy];rfl
  have bV:dW g1 [] (p.globals.take (k+1))=acc++g1 p.globals[k]:=by rw [cq,dy,mz];exact yX g1 _ _ _
  have hle:=yY g1 p.globals (k+1) [];rw [bV,aO] at hle
  have hmr:rows.length=acc.length:=by rw [bK];simp [cW]
  generalize p.globals[k]=z at *
  have hz:(g1 z).length=z.length+6:=by unfold g1;simp
  refine D ?_;refine GL.DN (str:=g1 z) rfl rfl rfl bj rfl G ?_;refine dk ?_;refine D ?_;exact ⟨rfl,rfl,_,_,Wk.aH ar,acc++g1 z,_,_,rfl,rfl,by rw [aO,hm];simp [cW],by rw [bK];exact (vu acc (g1 z)).symm,bV.symm⟩
 ·rintro _ _ ⟨acc,m,rows,rfl,rfl,hm,bK,mz⟩;rw [hmg,bW] at mz;rw [<-mz] at hlen l1 l2 |-;refine ba ?_;refine D ?_;refine GW.range (p.arrays.map az).length (fun k fr Γ=>∃ sj m rows,fr=[U,.sl 1 (cQ trees),.v (jT ex),.v (jT bk),.loc 0 0,U,U,U,U,.vec 1 m,U,U,U,U,U,U,U,U,U,U,U,U,U,U,U,U,U,U,U,U,U,.sl 2 (p.arrays.map az),.v (ii ((p.arrays.map az).length:Int)),.v (ii (k:Nat)),U,U,U,U,U,U,U,U,U,U,U,U,U,U,U,U,U,U,U,U,U,U,U,U,U,U,U,U,U,U,U,U,U,U,U,U,U,U,U,U,U,U,U,U,U,U,U,U]/\Γ=[.box 33 (av p),.vec 5 1 0 rows]/\rows.length=m/\rows=cW sj/\sj=dW a1 acc (p.arrays.take k)) ?_ G ?_ ?_ ?_
  ·exact ⟨_,_,Wk.aH ar,acc,m,rows,rfl,rfl,hm,bK,rfl⟩
  ·rintro k _ _ ⟨sj,m,rows,rfl,rfl,_⟩;exact dK
  ·clear hm bK;rintro k _ _ ak ⟨sj,m,rows,rfl,rfl,hm,bK,Gb⟩;rw [l7] at ak
   have dy:p.arrays[k]?=some p.arrays[k]:=by simp [ak]
   have CT:(p.arrays.map az)[k]?=some (az p.arrays[k]):=by rw [aP,dy];rfl
   have bV:dW a1 acc (p.arrays.take (k+1))=sj++a1 p.arrays[k]:=by rw [cq,dy,Gb];exact yX a1 _ _ _
   have hle:=yY a1 p.arrays (k+1) acc;rw [bV,aO] at hle
   have hmr:rows.length=sj.length:=by rw [bK];simp [cW]
   have zA:=kK p.arrays[k] (getElem_mem ak);generalize p.arrays[k]=z at *;have hit:=Ni z.size zA.1 zA.2;have vD:=zF zA
   have hz:(a1 z).length=z.name.length+(pF z.size).length+8:=by unfold a1;simp;omega
   unfold az at CT;refine D ?_;refine aL (aD 0 7 (.a 7 (.q 8 (.q 9 (.a 10 (.q 11 .nil)))))) ?_;refine ao ?_;refine aI [] hit ?_;refine OA rfl rfl (GL.DN (str:=a1 z) rfl rfl rfl bj rfl G (GL.nil (ba (fv.mk (by repeat (first | exact jg.n | (apply jg.w;(· decide +kernel)) | (apply jg.y;(· first | (apply YQ.t;(· exact rfl);(· exact rfl);(· (first | exact tJ | (apply K.idx;first | exact YG.idxV rfl rfl rfl bj G | exact YG.cU 0 rfl rfl rfl cx | exact YG.cU 1 rfl rfl rfl cx | exact YG.cU 2 rfl rfl rfl cx | exact YG.cU 3 rfl rfl rfl cx | exact YG.cU 4 rfl rfl rfl cx | exact YG.cU 5 rfl rfl rfl cx | exact YG.cU 6 rfl rfl rfl cx) | exact tK | exact YG.tF 1 rfl rfl bj bj | exact YG.mv | exact YG.vr | (apply K.bin;first | exact YG.go rfl | exact YG.vZ rfl rfl G | exact YG.xM rfl rfl | exact YG.yk rfl rfl | exact YG.CE rfl rfl | exact YG.Dk rfl rfl | exact YG.cat rfl rfl G | exact YG.cat rfl rfl (by simp only [aO,length_cons,length_nil];omega) | exact YG.xE rfl rfl G | exact YG.add rfl rfl G | exact YG.sub rfl rfl G | exact YG.mul rfl rfl G | exact YG.Ct rfl rfl G | exact YG.quo rfl rfl G | exact YG.rem rfl rfl G | exact YG.uf rfl rfl) | exact rR | exact rQ | exact rS | exact py | exact qs | (apply K.idx;first | exact YG.ue rfl rfl cl | exact YG.kO rfl rfl cl rfl | exact YG.kO rfl rfl cl G | exact YG.wh rfl rfl G) | exact YG.ext rfl rfl | exact YG.go rfl | (apply K.Is;first | exact YG.Cr rfl rfl rfl G | exact YG.Co rfl rfl G | exact YG.Cn rfl rfl G | exact YG.vg 1 rfl rfl rfl bj) | exact YG.sx rfl rfl cl | exact YG.idxSC rfl rfl cl rfl | exact qt | exact YG.build rfl | exact YG.neg rfl G | exact YG.sr rfl rfl | exact YG.yZ rfl (by first | rfl | exact IntWalk.i64_in _ G | exact IntWalk.u8_in _ G | assumption) | exact YG.str rfl bj))) | (apply YQ.t;(· exact rfl);(· apply BN;(· exact rfl);(· first | exact rfl | assumption));(· (first | exact tJ | (apply K.idx;first | exact YG.idxV rfl rfl rfl bj G | exact YG.cU 0 rfl rfl rfl cx | exact YG.cU 1 rfl rfl rfl cx | exact YG.cU 2 rfl rfl rfl cx | exact YG.cU 3 rfl rfl rfl cx | exact YG.cU 4 rfl rfl rfl cx | exact YG.cU 5 rfl rfl rfl cx | exact YG.cU 6 rfl rfl rfl cx) | exact tK | exact YG.tF 1 rfl rfl bj bj | exact YG.mv | exact YG.vr | (apply K.bin;first | exact YG.go rfl | exact YG.vZ rfl rfl G | exact YG.xM rfl rfl | exact YG.yk rfl rfl | exact YG.CE rfl rfl | exact YG.Dk rfl rfl | exact YG.cat rfl rfl G | exact YG.cat rfl rfl (by simp only [aO,length_cons,length_nil];omega) | exact YG.xE rfl rfl G | exact YG.add rfl rfl G | exact YG.sub rfl rfl G | exact YG.mul rfl rfl G | exact YG.Ct rfl rfl G | exact YG.quo rfl rfl G | exact YG.rem rfl rfl G | exact YG.uf rfl rfl) | exact rR | exact rQ | exact rS | exact py | exact qs | (apply K.idx;first | exact YG.ue rfl rfl cl | exact YG.kO rfl rfl cl rfl | exact YG.kO rfl rfl cl G | exact YG.wh rfl rfl G) | exact YG.ext rfl rfl | exact YG.go rfl | (apply K.Is;first | exact YG.Cr rfl rfl rfl G | exact YG.Co rfl rfl G | exact YG.Cn rfl rfl G | exact YG.vg 1 rfl rfl rfl bj) | exact YG.sx rfl rfl cl | exact YG.idxSC rfl rfl cl rfl | exact qt | exact YG.build rfl | exact YG.neg rfl G | exact YG.sr rfl rfl | exact YG.yZ rfl (by first | rfl | exact IntWalk.i64_in _ G | exact IntWalk.u8_in _ G | assumption) | exact YG.str rfl bj))) | (apply YQ.f;(· exact rfl);(· apply D3;(· exact rfl);(· first | exact rfl | assumption))))))) ?_))))
   refine Qx ?_;refine bx ?_;exact ⟨rfl,rfl,_,_,(Wk.cut (n:=2) (aM _) rfl).trans (Wk.aH ar),sj++a1 z,_,_,rfl,rfl,by rw [aO,hm];simp [cW],by rw [bK];exact (vu sj (a1 z)).symm,bV.symm⟩
  ·clear hm bK;rintro _ _ ⟨sj,m,rows,rfl,rfl,hm,bK,Gb⟩;rw [l7,bW] at Gb;rw [<-Gb] at hlen l2 |-
   have ru:∀ (k:Nat) (f:Go.Sp.Fn),p.fns[k]?=some f->f.params.length<=1099511627776:=fun k f h=>Fi f (bA h)
   refine ba ?_;refine D ?_;refine GW.range (p.fns.map au).length (fun k fr Γ=>∃ vY m rows,fr=[U,.sl 1 (cQ trees),U,U,U,U,U,U,U,.vec 1 m,U,U,U,U,.loc 2 0,U,U,U,U,U,U,U,U,U,U,U,U,U,U,U,U,U,U,U,U,U,U,U,U,U,U,U,U,U,U,U,U,U,U,U,U,U,U,.sl 3 (p.fns.map au),.v (ii ((p.fns.map au).length:Int)),.v (ii (k:Nat)),U,U,U,U,U,U,U,U,U,U,U,U,U,U,U,U,U,U,U,U,U,U,U,U,U,U]/\Γ=[.box 33 (av p),.vec 5 1 0 rows,.box 172 [.v (jT ex),.v (jT bk)]]/\rows.length=m/\rows=cW vY/\vY=dW (cy tx inl) sj ((p.fns.zip trees).take k)) ?_ G ?_ ?_ ?_
   ·exact ⟨_,_,Wk.aH ar,sj,m,rows,rfl,rfl,hm,bK,rfl⟩
   ·rintro k _ _ ⟨vY,m,rows,rfl,rfl,_⟩;exact dK
   ·clear hm bK;rintro k _ _ ak ⟨vY,m,rows,rfl,rfl,hm,bK,Gc⟩;rw [hmf] at ak
    have ov:k < trees.length:=by omega
    have dy:p.fns[k]?=some p.fns[k]:=by simp [ak]
    have yK:trees[k]?=some trees[k]:=by simp [ov]
    have CT:(p.fns.map au)[k]?=some (au p.fns[k]):=by rw [aP,dy];rfl
    have ab5:=xo yK
    have hkz:(p.fns.zip trees)[k]?=some (p.fns[k],trees[k]):=by rw [List.getElem?_zip_eq_some];exact ⟨dy,yK⟩
    have bV:dW (cy tx inl) sj ((p.fns.zip trees).take (k+1))=vY++cy tx inl (p.fns[k],trees[k]):=by rw [cq,hkz,Gc];exact yX (cy tx inl) _ _ _
    have hle:=yY (cy tx inl) (p.fns.zip trees) (k+1) sj;rw [bV,aO] at hle
    have hmr:rows.length=vY.length:=by rw [bK];simp [cW]
    obtain ⟨q1,q2,q3,q4⟩:=ht trees[k] (getElem_mem ov);have hpk:=ru k _ dy;generalize p.fns[k]=f at *;generalize trees[k]=t at *
    have hz:(cy tx inl (f,t)).length=f.name.length+(bX f.params).length+(oC tx inl 0 t).length+9:=by unfold cy;simp;omega
    have hJ:=Nj f.params G hpk
    have Ma:∀ (l:List T) (a:T),a∈l->aK a<=aB l:=by
     intro l
     induction l with
     | nil=>intro a h;cases h
     | cons b l ih2 =>
      intro a h;rw [aB]
      rcases de h with rfl | h
      ·omega
      ·have:=ih2 a h;omega
    have hB:=AR ex bk tx inl W t 0 G (by have:=Go.Xp.c6 t.kids;have:=Go.Xp.fA t;omega) G fun a Fb Xm=>by
     have F:=Ma _ a Fb;have I:=Go.Xp.fA t;have h3:=vk Fb;have h4:=qu t;rw [zG,aC,u5,gV] at q1;rw [sD] at q2;exact Jz ex bk tx inl W _ a (aE _) (q1.2 a Fb) (kZ q2.2 Fb) G (0+1) G Xm
    unfold au at CT;refine D ?_;refine aL (aD 0 7 (aD 10 5 (.a 7 (.q 8 (.q 9 (.a 15 (.q 16 (.q 17 (.a 18 (.q 19 .nil)))))))))) ?_;refine ao ?_;refine aI [] hJ ?_;refine aI [] hB ?_;refine OA rfl rfl (GL.DN (str:=cy tx inl (f,t)) rfl rfl rfl bj rfl G (GL.nil (ba (fv.mk (by repeat (first | exact jg.n | (apply jg.w;(· decide +kernel)) | (apply jg.y;(· first | (apply YQ.t;(· exact rfl);(· exact rfl);(· (first | exact tJ | (apply K.idx;first | exact YG.idxV rfl rfl rfl bj G | exact YG.cU 0 rfl rfl rfl cx | exact YG.cU 1 rfl rfl rfl cx | exact YG.cU 2 rfl rfl rfl cx | exact YG.cU 3 rfl rfl rfl cx | exact YG.cU 4 rfl rfl rfl cx | exact YG.cU 5 rfl rfl rfl cx | exact YG.cU 6 rfl rfl rfl cx) | exact tK | exact YG.tF 1 rfl rfl bj bj | exact YG.mv | exact YG.vr | (apply K.bin;first | exact YG.go rfl | exact YG.vZ rfl rfl G | exact YG.xM rfl rfl | exact YG.yk rfl rfl | exact YG.CE rfl rfl | exact YG.Dk rfl rfl | exact YG.cat rfl rfl G | exact YG.cat rfl rfl (by simp only [aO,length_cons,length_nil];omega) | exact YG.xE rfl rfl G | exact YG.add rfl rfl G | exact YG.sub rfl rfl G | exact YG.mul rfl rfl G | exact YG.Ct rfl rfl G | exact YG.quo rfl rfl G | exact YG.rem rfl rfl G | exact YG.uf rfl rfl) | exact rR | exact rQ | exact rS | exact py | exact qs | (apply K.idx;first | exact YG.ue rfl rfl cl | exact YG.kO rfl rfl cl rfl | exact YG.kO rfl rfl cl G | exact YG.wh rfl rfl G) | exact YG.ext rfl rfl | exact YG.go rfl | (apply K.Is;first | exact YG.Cr rfl rfl rfl G | exact YG.Co rfl rfl G | exact YG.Cn rfl rfl G | exact YG.vg 1 rfl rfl rfl bj) | exact YG.sx rfl rfl cl | exact YG.idxSC rfl rfl cl rfl | exact qt | exact YG.build rfl | exact YG.neg rfl G | exact YG.sr rfl rfl | exact YG.yZ rfl (by first | rfl | exact IntWalk.i64_in _ G | exact IntWalk.u8_in _ G | assumption) | exact YG.str rfl bj))) | (apply YQ.t;(· exact rfl);(· apply BN;(· exact rfl);(· first | exact rfl | assumption));(· (first | exact tJ | (apply K.idx;first | exact YG.idxV rfl rfl rfl bj G | exact YG.cU 0 rfl rfl rfl cx | exact YG.cU 1 rfl rfl rfl cx | exact YG.cU 2 rfl rfl rfl cx | exact YG.cU 3 rfl rfl rfl cx | exact YG.cU 4 rfl rfl rfl cx | exact YG.cU 5 rfl rfl rfl cx | exact YG.cU 6 rfl rfl rfl cx) | exact tK | exact YG.tF 1 rfl rfl bj bj | exact YG.mv | exact YG.vr | (apply K.bin;first | exact YG.go rfl | exact YG.vZ rfl rfl G | exact YG.xM rfl rfl | exact YG.yk rfl rfl | exact YG.CE rfl rfl | exact YG.Dk rfl rfl | exact YG.cat rfl rfl G | exact YG.cat rfl rfl (by simp only [aO,length_cons,length_nil];omega) | exact YG.xE rfl rfl G | exact YG.add rfl rfl G | exact YG.sub rfl rfl G | exact YG.mul rfl rfl G | exact YG.Ct rfl rfl G | exact YG.quo rfl rfl G | exact YG.rem rfl rfl G | exact YG.uf rfl rfl) | exact rR | exact rQ | exact rS | exact py | exact qs | (apply K.idx;first | exact YG.ue rfl rfl cl | exact YG.kO rfl rfl cl rfl | exact YG.kO rfl rfl cl G | exact YG.wh rfl rfl G) | exact YG.ext rfl rfl | exact YG.go rfl | (apply K.Is;first | exact YG.Cr rfl rfl rfl G | exact YG.Co rfl rfl G | exact YG.Cn rfl rfl G | exact YG.vg 1 rfl rfl rfl bj) | exact YG.sx rfl rfl cl | exact YG.idxSC rfl rfl cl rfl | exact qt | exact YG.build rfl | exact YG.neg rfl G | exact YG.sr rfl rfl | exact YG.yZ rfl (by first | rfl | exact IntWalk.i64_in _ G | exact IntWalk.u8_in _ G | assumption) | exact YG.str rfl bj))) | (apply YQ.f;(· exact rfl);(· apply D3;(· exact rfl);(· first | exact rfl | assumption))))))) ?_))))
    refine Qx ?_;refine bx ?_;exact ⟨rfl,rfl,_,_,(Wk.cut (n:=3) (aM _) rfl).trans (Wk.aH ar),vY++cy tx inl (f,t),_,_,rfl,rfl,by rw [aO,hm];simp [cW],by rw [bK];exact (vu vY _).symm,bV.symm⟩
   ·clear hm bK;rintro _ _ ⟨vY,m,rows,rfl,rfl,hm,bK,Gc⟩;rw [hmf,show (p.fns.zip trees).take p.fns.length=p.fns.zip trees from kz (by simp;omega)] at Gc;rw [<-Gc] at hlen |-;refine ba ?_;refine GW.wk (Wk.jD (t:=9) rfl rfl rfl hm) ?_
    have abU:rows=vY.map fun c=>[.v (.int .u8 (c.toNat:Int))]:=bK
    exact ay
end Go.Xg
namespace Go.Xg
open GV (U)
open Go.RowKit Go.Xw Go.Proofs Tryz
open Go.Im (gx tl tq uL nB oR)
attribute [local irreducible] GW GL GO YG GC GA be bg
theorem JC (a b:List ae) (ha:a.length<=1099511627776) (hb:b.length<=1099511627776):GF prog 118 [strs a,strs b] [] (.v (.bool (gx (fun x y=>x==y) a b))) []:=by
 have l7:(a.map fun s=>[GV.v (sv s)]).length=a.length:=by simp
 have rY:(b.map fun s=>[GV.v (sv s)]).length=b.length:=by simp
 by_cases hl:a.length=b.length
 ·have hd:(((a.map fun s=>[GV.v (sv s)]).length:Int) != ((b.map fun s=>[GV.v (sv s)]).length:Int))=false:=by rw [l7,rY,hl];simp
  refine ah func118 ntmps118 ?_;refine GW.range (a.map fun s=>[GV.v (sv s)]).length (fun k fr Γ=>fr=[strs a,strs b,U,U,U,U,U,U,U,U,U,U,.v (ii ((a.map fun s=>[GV.v (sv s)]).length:Int)),.v (ii (k:Nat)),U,U,U,U,U,U,U,U,U,U,U,U]/\Γ=[]/\uL (fun x y=>x==y) a b k) ?_ G ?_ ?_ ?_
  ·exact ⟨_,_,Wk.aH ar,rfl,rfl,fun j x y h=>by omega⟩
  ·exact jd
  ·rintro k _ _ ak ⟨rfl,rfl,mc⟩;rw [l7] at ak
   have mG:a[k]?=some a[k]:=by simp [ak]
   have rq:k < b.length:=by omega
   have oW:b[k]?=some b[k]:=by simp [rq]
   have Hr:(a.map fun s=>[GV.v (sv s)])[k]?=some [GV.v (sv a[k])]:=by rw [aP,mG];rfl
   have Hs:(b.map fun s=>[GV.v (sv s)])[k]?=some [GV.v (sv b[k])]:=by rw [aP,oW];rfl
   generalize a[k]=x at *;generalize b[k]=y at *
   cases mf:(x==y) with
   | true =>
    have hn:(x != y)=false:=by simp only [bne,mf];rfl
    have b9:(!(x==y))=false:=by rw [mf];rfl
    refine D ?_;refine aL (aD 0 9 .nil) ?_;refine bx ?_;exact ⟨rfl,rfl,_,_,Wk.aH ar,rfl,rfl,nB mG oW mc mf⟩
   | false =>
    have hn:(x != y)=true:=by simp only [bne,mf];rfl
    have b9:(!(x==y))=true:=by rw [mf];rfl
    rw [tq mG oW (p:=fun x y=>x==y) mf];refine D ?_;refine aL (aD 0 9 .nil) ?_;refine ao ?_;exact ay
  ·rintro _ _ ⟨rfl,rfl,mc⟩;rw [l7] at mc;rw [oR hl mc];exact ay
 ·have hd:(((a.map fun s=>[GV.v (sv s)]).length:Int) != ((b.map fun s=>[GV.v (sv s)]).length:Int))=true:=by rw [l7,rY];simpa using by omega
  rw [tl hl];refine ah func118 ntmps118 ?_;exact aj
theorem Us (a b:List Int) (ha:a.length<=1099511627776) (hb:b.length<=1099511627776):GF prog 169 [ints a,ints b] [] (.v (.bool (gx (fun x y=>x==y) a b))) []:=by
 have l7:(a.map fun s=>[GV.v (ii s)]).length=a.length:=by simp
 have rY:(b.map fun s=>[GV.v (ii s)]).length=b.length:=by simp
 by_cases hl:a.length=b.length
 ·have hd:(((a.map fun s=>[GV.v (ii s)]).length:Int) != ((b.map fun s=>[GV.v (ii s)]).length:Int))=false:=by rw [l7,rY,hl];simp
  refine ah func169 ntmps169 ?_;refine GW.range (a.map fun s=>[GV.v (ii s)]).length (fun k fr Γ=>fr=[ints a,ints b,U,U,U,U,U,U,U,U,U,U,.v (ii ((a.map fun s=>[GV.v (ii s)]).length:Int)),.v (ii (k:Nat)),U,U,U,U,U,U,U,U,U,U,U,U]/\Γ=[]/\uL (fun x y=>x==y) a b k) ?_ G ?_ ?_ ?_
  ·exact ⟨_,_,Wk.aH ar,rfl,rfl,fun j x y h=>by omega⟩
  ·exact jd
  ·rintro k _ _ ak ⟨rfl,rfl,mc⟩;rw [l7] at ak
   have mG:a[k]?=some a[k]:=by simp [ak]
   have rq:k < b.length:=by omega
   have oW:b[k]?=some b[k]:=by simp [rq]
   have Hr:(a.map fun s=>[GV.v (ii s)])[k]?=some [GV.v (ii a[k])]:=by rw [aP,mG];rfl
   have Hs:(b.map fun s=>[GV.v (ii s)])[k]?=some [GV.v (ii b[k])]:=by rw [aP,oW];rfl
   generalize a[k]=x at *;generalize b[k]=y at *
   cases mf:(x==y) with
   | true =>
    have hn:(x != y)=false:=by simp only [bne,mf];rfl
    have b9:(!(x==y))=false:=by rw [mf];rfl
    refine D ?_;refine aL (aD 0 9 .nil) ?_;refine bx ?_;exact ⟨rfl,rfl,_,_,Wk.aH ar,rfl,rfl,nB mG oW mc mf⟩
   | false =>
    have hn:(x != y)=true:=by simp only [bne,mf];rfl
    have b9:(!(x==y))=true:=by rw [mf];rfl
    rw [tq mG oW (p:=fun x y=>x==y) mf];refine D ?_;refine aL (aD 0 9 .nil) ?_;refine ao ?_;exact ay
  ·rintro _ _ ⟨rfl,rfl,mc⟩;rw [l7] at mc;rw [oR hl mc];exact ay
 ·have hd:(((a.map fun s=>[GV.v (ii s)]).length:Int) != ((b.map fun s=>[GV.v (ii s)]).length:Int))=true:=by rw [l7,rY];simpa using by omega
  rw [tl hl];refine ah func169 ntmps169 ?_;exact aj
end Go.Xg
namespace Go.Xg
open GV (U)
open Go.RowKit Go.Xw Go.Proofs Tryz
open Go.Xp (Nd)
open Go.Im (sZ mi gx tl tq uL nB oR)
attribute [local irreducible] GW GL GO YG GC GA be bg
theorem Sr (a b:Go.Sp.Fn) (ha:a.params.length<=1099511627776) (hb:b.params.length<=1099511627776):GF prog 121 [.agg (au a),.agg (au b)] [] (.v (.bool (sZ a b))) []:=by
 have he:=JC a.params b.params ha hb;unfold sZ au
 cases F:(a.name==b.name) with
 | false =>
  refine ah func121 ntmps121 ?_;exact aj
 | true =>
  cases I:gx (fun x y=>x==y) a.params b.params with
  | false =>
   rw [I] at he;refine ah func121 ntmps121 ?_;refine V [] he ?_;exact aj
  | true =>
   rw [I] at he;refine ah func121 ntmps121 ?_;refine V [] he ?_;exact aj
theorem MK (a b:Nd) (ha:a.kids.length<=1099511627776) (hb:b.kids.length<=1099511627776):GF prog 123 [.agg (ax a),.agg (ax b)] [] (.v (.bool (mi a b))) []:=by
 have he:=Us a.kids b.kids ha hb;unfold mi ax;generalize gx (fun x y=>x==y) a.kids b.kids=q at *
 cases F:(a.kind==b.kind) with
 | false =>
  refine ah func123 ntmps123 ?_;exact aj
 | true =>
  cases I:(a.n==b.n) with
  | false =>
   refine ah func123 ntmps123 ?_;exact aj
  | true =>
   cases h3:(a.s==b.s) with
   | false =>
    refine ah func123 ntmps123 ?_;exact aj
   | true =>
    refine ah func123 ntmps123 ?_;refine V [] he ?_;exact aj
theorem IZ (a b:List Go.Sp.Fn) (ha:a.length<=1099511627776) (hb:b.length<=1099511627776) (ka:∀ x∈a,x.params.length<=1099511627776) (kb:∀ x∈b,x.params.length<=1099511627776) :
  GF prog 120 [.sl 3 (a.map au),.sl 3 (b.map au),.v (.func (.func 121) #[] #[])] [] (.v (.bool (gx sZ a b))) []:=by
 have l7:(a.map au).length=a.length:=by simp
 have rY:(b.map au).length=b.length:=by simp
 by_cases hl:a.length=b.length
 ·have hd:(((a.map au).length:Int) != ((b.map au).length:Int))=false:=by rw [l7,rY,hl];simp
  refine ah func120 ntmps120 ?_;refine GW.range (a.map au).length (fun k fr Γ=>fr=[U,.sl 3 (b.map au),.v (.func (.func 121) #[] #[]),U,U,U,U,U,U,U,U,U,U,U,U,.sl 3 (a.map au),.v (ii ((a.map au).length:Int)),.v (ii (k:Nat)),U,U,U,U,U,U,U,U,U,U,U,U,U,U]/\Γ=[]/\uL sZ a b k) ?_ G ?_ ?_ ?_
  ·exact ⟨_,_,Wk.aH ar,rfl,rfl,fun j x y h=>by omega⟩
  ·exact jd
  ·rintro k _ _ ak ⟨rfl,rfl,mc⟩;rw [l7] at ak
   have mG:a[k]?=some a[k]:=by simp [ak]
   have rq:k < b.length:=by omega
   have oW:b[k]?=some b[k]:=by simp [rq]
   have Hr:(a.map au)[k]?=some (au a[k]):=by rw [aP,mG];rfl
   have Hs:(b.map au)[k]?=some (au b[k]):=by rw [aP,oW];rfl
   have hs:=Sr a[k] b[k] (ka _ (getElem_mem ak)) (kb _ (getElem_mem rq));generalize a[k]=x at *;generalize b[k]=y at *;unfold au at Hr Hs hs
   cases mf:sZ x y with
   | true =>
    rw [mf] at hs;refine D ?_;refine jR [] hs ?_;refine D ?_;exact ⟨rfl,rfl,_,_,(Wk.cut (n:=0) (aE _) rfl).trans (Wk.aH ar),rfl,rfl,nB mG oW mc mf⟩
   | false =>
    rw [mf] at hs;rw [tq mG oW (p:=sZ) mf];refine D ?_;refine jR [] hs ?_;exact ay
  ·rintro _ _ ⟨rfl,rfl,mc⟩;rw [l7] at mc;rw [oR hl mc];exact ay
 ·have hd:(((a.map au).length:Int) != ((b.map au).length:Int))=true:=by rw [l7,rY];simpa using by omega
  rw [tl hl];refine ah func120 ntmps120 ?_;exact aj
theorem I0 (a b:List Nd) (ha:a.length<=1099511627776) (hb:b.length<=1099511627776) (ka:∀ x∈a,x.kids.length<=1099511627776) (kb:∀ x∈b,x.kids.length<=1099511627776) :
  GF prog 122 [.sl 5 (a.map ax),.sl 5 (b.map ax),.v (.func (.func 123) #[] #[])] [] (.v (.bool (gx mi a b))) []:=by
 have l7:(a.map ax).length=a.length:=by simp
 have rY:(b.map ax).length=b.length:=by simp
 by_cases hl:a.length=b.length
 ·have hd:(((a.map ax).length:Int) != ((b.map ax).length:Int))=false:=by rw [l7,rY,hl];simp
  refine ah func122 ntmps122 ?_;refine GW.range (a.map ax).length (fun k fr Γ=>fr=[U,.sl 5 (b.map ax),.v (.func (.func 123) #[] #[]),U,U,U,U,U,U,U,U,U,U,U,U,.sl 5 (a.map ax),.v (ii ((a.map ax).length:Int)),.v (ii (k:Nat)),U,U,U,U,U,U,U,U,U,U,U,U,U,U]/\Γ=[]/\uL mi a b k) ?_ G ?_ ?_ ?_
  ·exact ⟨_,_,Wk.aH ar,rfl,rfl,fun j x y h=>by omega⟩
  ·exact jd
  ·rintro k _ _ ak ⟨rfl,rfl,mc⟩;rw [l7] at ak
   have mG:a[k]?=some a[k]:=by simp [ak]
   have rq:k < b.length:=by omega
   have oW:b[k]?=some b[k]:=by simp [rq]
   have Hr:(a.map ax)[k]?=some (ax a[k]):=by rw [aP,mG];rfl
   have Hs:(b.map ax)[k]?=some (ax b[k]):=by rw [aP,oW];rfl
   have hs:=MK a[k] b[k] (ka _ (getElem_mem ak)) (kb _ (getElem_mem rq));generalize a[k]=x at *;generalize b[k]=y at *;unfold ax at Hr Hs hs
   cases mf:mi x y with
   | true =>
    rw [mf] at hs;refine D ?_;refine jR [] hs ?_;refine D ?_;exact ⟨rfl,rfl,_,_,(Wk.cut (n:=0) (aE _) rfl).trans (Wk.aH ar),rfl,rfl,nB mG oW mc mf⟩
   | false =>
    rw [mf] at hs;rw [tq mG oW (p:=mi) mf];refine D ?_;refine jR [] hs ?_;exact ay
  ·rintro _ _ ⟨rfl,rfl,mc⟩;rw [l7] at mc;rw [oR hl mc];exact ay
 ·have hd:(((a.map ax).length:Int) != ((b.map ax).length:Int))=true:=by rw [l7,rY];simpa using by omega
  rw [tl hl];refine ah func122 ntmps122 ?_;exact aj
end Go.Xg
namespace Go.Xg
open GV (U)
open Go.RowKit Go.Xw Go.Proofs Tryz
open Go.Xp (Nd Ar)
open Go.Im (AV gx tl tq uL nB oR)
theorem Zc (w:World) (s s':ae) (n n':Int):(Op.equalIn 10000 56 (.agg #[sv s,ii n]) (.agg #[sv s',ii n'])).run prog w=.ok ((s==s')&&(n==n')) w:=by
 have hf:(prog.fieldsOf 56).toList=[(prog.fieldsOf 56)[0]!,(prog.fieldsOf 56)[1]!]:=by kernel_rfl
 have a0:((prog.fieldsOf 56)[0]!).type=9:=by kernel_rfl
 have a1:((prog.fieldsOf 56)[1]!).type=3:=by kernel_rfl
 have b0:((prog.fieldsOf 56)[0]!).offset=0:=by kernel_rfl
 have b1:((prog.fieldsOf 56)[1]!).offset=1:=by kernel_rfl
 have c0:((prog.fieldsOf 56)[0]!).name = "Name" := by kernel_rfl
 have c1:((prog.fieldsOf 56)[1]!).name = "Size" := by kernel_rfl
 rw [show (10000:Nat)=9999+1 from rfl,run_equalIn_agg w 9999 _ _ _ (by kernel_rfl) (by kernel_rfl),hf];generalize (prog.fieldsOf 56)[0]! = f0 at *;generalize (prog.fieldsOf 56)[1]! = cy at *
 have hs:prog.underlying 9=some .string:=by kernel_rfl
 have hi:prog.underlying 3=some (.int .i64):=by kernel_rfl
 have p0:∀ (a:ae) (b:Int) w,(part f0.type #[sv a,ii b] f0.offset).run prog w=.ok (sv a) w:=fun a b w=>by
  rw [a0,b0];rfl
 have p1:∀ (a:ae) (b:Int) w,(part cy.type #[sv a,ii b] cy.offset).run prog w=.ok (ii b) w:=fun a b w=>by
  rw [a1,b1];rfl
 have e0:∀ w,(Op.equalIn 9999 f0.type (sv s) (sv s')).run prog w=.ok (s==s') w:=fun w=>by
  rw [a0,show (9999:Nat)=9998+1 from rfl];have:=run_equalIn_string (P:=prog) w 9998 9 ⟨s.toArray⟩ ⟨s'.toArray⟩ hs;rw [show sv s=.string ⟨s.toArray⟩ from rfl,show sv s'=.string ⟨s'.toArray⟩ from rfl,this];simp [toList_mk]
 have e1:∀ w,(Op.equalIn 9999 cy.type (ii n) (ii n')).run prog w=.ok (n==n') w:=fun w=>by
  rw [a1,show (9999:Nat)=9998+1 from rfl];exact run_equalIn_int (P:=prog) w 9998 3 .i64 .i64 n n' hi
 have n0:f0.name ≠ "_" := by rw [c0];decide
 have n1:cy.name ≠ "_" := by rw [c1];decide
 rw [Op.eqFields,ab n0];simp only [Sem.run_bind,p0,Result.andThen_ok,e0]
 cases s==s' with
 | false=>simp
 | true =>
  simp only [Bool.not_true,Bool.false_eq_true,if_false,Bool.true_and];rw [Op.eqFields,ab n1];simp only [Sem.run_bind,p1,Result.andThen_ok,e1]
  cases n==n' with
  | false=>simp
  | true=>simp [Op.eqFields]
theorem YG.Yg {fr:List GV} {Γ:List Ob} {x y:Operand} {t':TypeId} {s s':ae} {n n':Int} (hx:bb fr x=.agg [.v (sv s),.v (ii n)]) (hy:bb fr y=.agg [.v (sv s'),.v (ii n')]) :
  YG prog (.binOp .neq 56 x y t') fr Γ (.v (.bool (!((s==s')&&(n==n'))))):=fun B K β w l hI hF=>by
 have two:∀ {v:Value} {a b:Value},Rel K β v (.agg [.v a,.v b])->v=.agg #[a,b]:=fun {v a b} h=>by
  cases h with
  | agg vs _ hl hh =>
   match vs,hl with
   | [u1,u2],_ =>
    have F:=Rel.gk (hh 0 u1 (.v a) rfl rfl);have I:=Rel.gk (hh 1 u2 (.v b) rfl rfl);rw [F,I]
 have tA:=two (by rw [<-hx];exact hF.ev x);have XL:=two (by rw [<-hy];exact hF.ev y);refine ⟨_,fun d ty pos af=>?_,.v _⟩;have hg:=run_eqGuard_agg (P:=prog) w .neq 56 x y #[sv s,ii n] #[sv s',ii n'] (by kernel_rfl);have hn:=run_neq_struct (P:=prog) w 56 #[sv s,ii n] #[sv s',ii n'];rw [Zc,Result.andThen_ok] at hn;simp [execOp,tA,XL,hg,hn]
attribute [local irreducible] GW GL GO YG GC GA be bg
theorem Ur (a b:List Ar) (ha:a.length<=1099511627776) (hb:b.length<=1099511627776):GF prog 119 [(.sl 2 (a.map fun s=>az s)),(.sl 2 (b.map fun s=>az s))] [] (.v (.bool (gx AV a b))) []:=by
 have l7:(a.map fun s=>az s).length=a.length:=by simp
 have rY:(b.map fun s=>az s).length=b.length:=by simp
 by_cases hl:a.length=b.length
 ·have hd:(((a.map fun s=>az s).length:Int) != ((b.map fun s=>az s).length:Int))=false:=by rw [l7,rY,hl];simp
  refine ah func119 ntmps119 ?_;refine GW.range (a.map fun s=>az s).length (fun k fr Γ=>fr=[(.sl 2 (a.map fun s=>az s)),(.sl 2 (b.map fun s=>az s)),U,U,U,U,U,U,U,U,U,U,.v (ii ((a.map fun s=>az s).length:Int)),.v (ii (k:Nat)),U,U,U,U,U,U,U,U,U,U,U,U]/\Γ=[]/\uL AV a b k) ?_ G ?_ ?_ ?_
  ·exact ⟨_,_,Wk.aH ar,rfl,rfl,fun j x y h=>by omega⟩
  ·exact jd
  ·rintro k _ _ ak ⟨rfl,rfl,mc⟩;rw [l7] at ak
   have mG:a[k]?=some a[k]:=by simp [ak]
   have rq:k < b.length:=by omega
   have oW:b[k]?=some b[k]:=by simp [rq]
   have Hr:(a.map fun s=>az s)[k]?=some (az a[k]):=by rw [aP,mG];rfl
   have Hs:(b.map fun s=>az s)[k]?=some (az b[k]):=by rw [aP,oW];rfl
   generalize a[k]=x at *;generalize b[k]=y at *;unfold az at Hr Hs
   cases mf:AV x y with
   | true =>
    have b9:(!((x.name==y.name)&&(x.size==y.size)))=false:=by rw [show ((x.name==y.name)&&(x.size==y.size))=AV x y from rfl,mf];rfl
    refine D ?_;refine aL (aD 0 9 .nil) ?_;refine ao ?_;apply OP
    ·exact rfl
    ·intro Γ;exact YG.Yg rfl rfl
    refine vW ?_;refine bx ?_;exact ⟨rfl,rfl,_,_,Wk.aH ar,rfl,rfl,nB mG oW mc mf⟩
   | false =>
    have b9:(!((x.name==y.name)&&(x.size==y.size)))=true:=by rw [show ((x.name==y.name)&&(x.size==y.size))=AV x y from rfl,mf];rfl
    rw [tq mG oW (p:=AV) mf];refine D ?_;refine aL (aD 0 9 .nil) ?_;refine ao ?_;apply OP
    ·exact rfl
    ·intro Γ;exact YG.Yg rfl rfl
    refine vW ?_;refine ao ?_;exact ay
  ·rintro _ _ ⟨rfl,rfl,mc⟩;rw [l7] at mc;rw [oR hl mc];exact ay
 ·have hd:(((a.map fun s=>az s).length:Int) != ((b.map fun s=>az s).length:Int))=true:=by rw [l7,rY];simpa using by omega
  rw [tl hl];refine ah func119 ntmps119 ?_;exact aj
end Go.Xg
set_option maxHeartbeats 1000000
namespace Go.Xg
open GV (U)
open Go.RowKit Go.Xw Go.Proofs Tryz
open Go.Xp (Tok Nd T bH one levels ja eP fi en dV pY)
open Go.Sp Go.Im
attribute [local irreducible] GW GL GO YG GC GA be bg
structure JD (f:Nat):Prop where
 expr:∀ d p t q x,p.ok->d+f<=1099511627776->iE f (.expr d) p=some (t,q)->GF prog 271 [.loc 0 0,.v (ii (d:Nat))] [cm p x] (qT t) [cm q x]
 level:∀ k d p t q x,p.ok->k<=9->d+f<=1099511627776->iE f (.level k d) p=some (t,q)->GF prog 282 [.loc 0 0,.v (ii (k:Nat)),.v (ii (d:Nat))] [cm p x] (qT t) [cm q x]
 operand:∀ d p t q x,p.ok->d+f<=1099511627776->iE f (.operand d) p=some (t,q)->GF prog 289 [.loc 0 0,.v (ii (d:Nat))] [cm p x] (qT t) [cm q x]
 exprs:∀ d p l q x,p.ok->d+f<=1099511627776->iA f d [] p=some (l,q)->GF prog 291 [.loc 0 0,.v (ii (d:Nat))] [cm p x] (.sl 1 (lI l)) [cm q x]
theorem IW:GF prog 246 [.v (ii 0),.v (ii 0),.v (sv []),.sl 1 []] [] (qT T.zero) []:=fy 0 0 [] [] [] rfl
theorem Wi {f:Nat} (C:JD f) (d:Nat) (p:RS) (t:T) (q:RS) (x:PX) (hp:p.ok) (hd:d+(f+1)<=1099511627776) (h:iE (f+1) (.expr d) p=some (t,q)) :
  GF prog 271 [.loc 0 0,.v (ii (d:Nat))] [cm p x] (qT t) [cm q x]:=by
 rw [iE] at h;have eJ:=xL p d x hp
 by_cases hc:(cr p d).code=0
 ·have dY:((cr p d).code==0)=true:=by simpa using hc
  rw [ab hc] at h;rw [dY] at eJ;rw [qb hc] at h eJ;have hl:=C.level 0 (d+1) p t q x hp G G h;refine ah func271 ntmps271 ?_;refine V [0] eJ ?_;refine V [0] hl ?_;exact aj
 ·have dY:((cr p d).code==0)=false:=by simpa using hc
  rw [L hc] at h;rw [dY] at eJ;cases h;refine ah func271 ntmps271 ?_;refine V [0] eJ ?_;refine V [] IW ?_;exact aj
theorem U9 {f:Nat} (C:∀ f',f'<=f->JD f') (k d:Nat) (p:RS) (t:T) (q:RS) (x:PX) (hp:p.ok) (hk:k<=9) (hd:d+(f+1)<=1099511627776) (h:iE (f+1) (.level k d) p=some (t,q)) :
  GF prog 282 [.loc 0 0,.v (ii (k:Nat)),.v (ii (d:Nat))] [cm p x] (qT t) [cm q x]:=by
 rw [iE] at h
 by_cases CQ:k=9
 ·subst CQ;rw [ab rfl] at h;have ho:=(C f (aE _)).operand d p t q x hp G h;refine ah func282 ntmps282 ?_;refine V [] u7 ?_;refine V [0] ho ?_;exact aj
 ·rw [L CQ] at h
  have aa8:((k:Int)==9)=false:=by simp;omega
  cases he:iE f (.level (k+1) d) p with
  | none=>rw [he] at h;cases h
  | some r =>
   obtain ⟨out,p1⟩:=r;rw [he] at h;simp only at h;have l8:=((km f).1 _ _ _ _ hp he).ok hp;have hl:=(C f (aE _)).level (k+1) d p out p1 x hp G G he;refine ah func282 ntmps282 ?_;refine V [] u7 ?_;refine V [0] hl ?_;refine GW.loop (fun z:Nat × T × RS=>z.1) (fun z fr Γ=>fr=[.loc 0 0,.v (ii (k:Nat)),.v (ii (d:Nat)),U,U,U,U,qT z.2.1,U,U,U,U,U,U,U,U,U,U,U,U,U,U,U,U,U,U,U,U,U,U,U,U,U,U,U,U,U,U,U,U,U,U,U,U,U,U,U,U,U,U,U,U,U,U,U,U,U,U,U,U,U,U,U,U]/\Γ=[cm z.2.2 x]/\z.2.2.ok/\z.1<=f/\iE z.1 (.loop k d z.2.1) z.2.2=some (t,q)) (f,out,p1) ?_ ?_
   ·exact ⟨_,_,Wk.aH ar,rfl,rfl,l8,aE _,h⟩
   ·clear h he hl;rintro ⟨g,out,p⟩ _ _ ⟨rfl,rfl,hp,Hc,h⟩;simp only at hp Hc h
    cases g with
    | zero=>simp [iE] at h
    | succ g =>
    rw [iE] at h
    have hk:k < 9:=by omega
    have ht:=tf p 0 x hp aU
    by_cases hc:p.code=0
    ·have dY:(p.code==0)=true:=by simpa using hc
     by_cases h3:(tok p 0).kind=3
     ·have lF:((tok p 0).kind==3)=true:=by simpa using h3
      have Kk:=KD hk;have TD:=iz (levels.getD k []) (tok p 0).s (Ee k hk)
      by_cases hit:(levels.getD k []).contains (tok p 0).s=true
      ·rw [ab ⟨hc,h3,hit⟩] at h;rw [hit] at TD;have ak:p.i < p.l.length:=tH (k:=0) G;have cZ:=hp.2
       cases hb:iE g (.level (k+1) d) p.next with
       | none=>rw [hb] at h;cases h
       | some r =>
        obtain ⟨b,p2⟩:=r;rw [hb] at h;simp only at h;have dL:=(ep ak).ok hp;have ef:=((km g).1 _ _ _ _ dL hb).ok dL
        have kW:=(C g G).level (k+1) d p.next b p2 x dL G G hb
        generalize tok p 0=tk at *;have jH:=fy 6 tk.at_ tk.s [out,b] [[qT out],[qT b]] (iV _);refine D ?_;refine aL (aD 0 7 (.a 7 (aD 8 4 (.q 13 (.q 16 (.a 12 (.q 14 (.q 15 (.a 17 (.q 18 (.a 19 (.q 20 .nil)))))))))))) ?_;refine ao ?_;refine b6 [0] ht ?_;refine b6 [] u7 ?_;refine b6 [0] ht ?_;refine b6 [] TD ?_;refine D ?_;refine V [0] ht ?_;refine aL (aD 0 9 (.a 9 (.a 10 (.a 11 (.q 12 .nil))))) ?_;refine ao ?_;refine aI [0] kW ?_;refine dC ?_;refine ao ?_;refine aI [] jH ?_;refine D ?_;exact ⟨(g,one 6 tk.at_ tk.s [out,b],p2),⟨_,_,(Wk.cut (n:=1) (fq rfl) rfl).trans (Wk.aH ar),rfl,rfl,ef,by omega,h⟩,by simp⟩
      ·have hit:(levels.getD k []).contains (tok p 0).s=false:=by simpa using hit
       rw [L (by rw [hit];simp)] at h
       obtain ⟨rfl,rfl⟩:out=t/\p=q:=by simpa using h
       rw [hit] at TD;generalize tok p 0=tk at *;refine D ?_;refine aL (aD 0 7 (.a 7 (aD 8 4 (.q 13 (.q 16 (.a 12 (.q 14 (.q 15 (.a 17 (.q 18 (.a 19 (.q 20 .nil)))))))))))) ?_;refine ao ?_;refine b6 [0] ht ?_;refine b6 [] u7 ?_;refine b6 [0] ht ?_;refine b6 [] TD ?_;refine cw ?_;exact ay
     ·have lF:((tok p 0).kind==3)=false:=by simpa using h3
      rw [L (fun hh=>h3 hh.2.1)] at h
      obtain ⟨rfl,rfl⟩:out=t/\p=q:=by simpa using h
      generalize tok p 0=tk at *;refine D ?_;refine aL (aD 0 7 (.a 7 (aD 8 4 (.q 13 (.q 16 (.a 12 (.q 14 (.q 15 (.a 17 (.q 18 (.a 19 (.q 20 .nil)))))))))))) ?_;refine ao ?_;refine b6 [0] ht ?_;refine cw ?_;exact ay
    ·have dY:(p.code==0)=false:=by simpa using hc
     rw [L (fun hh=>hc hh.1)] at h
     obtain ⟨rfl,rfl⟩:out=t/\p=q:=by simpa using h
     refine D ?_;refine aL (aD 0 7 (.a 7 (aD 8 4 (.q 13 (.q 16 (.a 12 (.q 14 (.q 15 (.a 17 (.q 18 (.a 19 (.q 20 .nil)))))))))))) ?_;refine bx ?_;refine ky ?_;exact ay
theorem UM {f:Nat} (C:∀ f',f'<=f->JD f') (d:Nat) (p:RS) (l:List T) (q:RS) (x:PX) (hp:p.ok) (hd:d+(f+1)<=1099511627776) (h:iA (f+1) d [] p=some (l,q)) :
  GF prog 291 [.loc 0 0,.v (ii (d:Nat))] [cm p x] (.sl 1 (lI l)) [cm q x]:=by
 refine ah func291 ntmps291 ?_;refine GW.wk (Wk.Ek (t:=5) (a:=none) (c:=0) 131 1 rfl) ?_;refine GW.loop (fun z:Nat × List T × RS=>z.1) (fun z fr Γ=>∃ n rows,fr=[.loc 0 0,.v (ii (d:Nat)),U,U,U,.vec 1 n,U,U,U,U,U,U,U,U,U,U,U,U,U,U,U,U,U,U,U,U,U,U,U,U,U,U]/\Γ=[cm z.2.2 x,.vec 131 1 0 rows]/\rows.length=n/\rows=lI z.2.1/\n+z.1<=f+1/\z.2.2.ok/\iA z.1 d z.2.1 z.2.2=some (l,q)) (f+1,[],p) ?_ ?_
 ·exact ⟨_,_,Wk.aH ar,0,[],rfl,rfl,rfl,rfl,by simp,hp,h⟩
 ·clear h hp;rintro ⟨g,acc,p⟩ _ _ ⟨n,rows,rfl,rfl,hn,bK,Bb,hp,h⟩;simp only at bK Bb hp h
  cases g with
  | zero=>simp [iA] at h
  | succ g =>
  rw [iA] at h;have hi:=lq p 0 [41] x hp aU
  have mz:acc.length=n:=by rw [<-hn,bK,oo]
  by_cases hc:p.code=0
  ·have dY:(p.code==0)=true:=by simpa using hc
   cases hs:is p 0 [41] with
   | true =>
    rw [hs] at hi;rw [L (fun hh=>by have:=hh.2;rw [hs] at this;cases this)] at h
    obtain ⟨rfl,rfl⟩:acc=l/\want p [41]=q:=by simpa using h
    have hw:=fM p [41] x hp;subst bK;refine D ?_;refine V [0] hi ?_;refine ky ?_;refine D ?_;refine cD ?_;refine D ?_;refine V [0] hw ?_;refine GW.wk (Wk.jD (t:=4) rfl rfl rfl hn) ?_;exact aj
   | false =>
    rw [hs] at hi;rw [ab ⟨hc,hs⟩] at h
    by_cases h0:acc.length=0
    ·rw [ab h0] at h
     have uN:decide ((0:Int) < (n:Int))=false:=by simpa using by omega
     cases hb:iE g (.expr d) p with
     | none=>rw [hb] at h;cases h
     | some r =>
      obtain ⟨a,p2⟩:=r;rw [hb] at h;simp only at h;have ef:=((km g).1 _ _ _ _ hp hb).ok hp;have he:=(C g G).expr d p a p2 x hp G hb;refine D ?_;refine V [0] hi ?_;refine V [0] he ?_;refine fk ?_;refine D ?_;exact ⟨(g,acc++[a],p2),⟨_,_,Wk.aH ar,_,_,rfl,rfl,by simp [hn],by rw [xk,bK],by show n+1+g<=f+1;omega,ef,h⟩,by simp⟩
    ·rw [L h0] at h
     have uN:decide ((0:Int) < (n:Int))=true:=by simpa using by omega
     have nE:=(cR hp [44]).ok hp;have hw:=fM p [44] x hp
     cases hb:iE g (.expr d) (want p [44]) with
     | none=>rw [hb] at h;cases h
     | some r =>
      obtain ⟨a,p2⟩:=r;rw [hb] at h;simp only at h;have ef:=((km g).1 _ _ _ _ nE hb).ok nE;have he:=(C g G).expr d _ a p2 x nE G hb;refine D ?_;refine V [0] hi ?_;refine cD ?_;refine D ?_;refine V [0] hw ?_;refine V [0] he ?_;refine fk ?_;refine D ?_;exact ⟨(g,acc++[a],p2),⟨_,_,Wk.aH ar,_,_,rfl,rfl,by simp [hn],by rw [xk,bK],by show n+1+g<=f+1;omega,ef,h⟩,by simp⟩
  ·have dY:(p.code==0)=false:=by simpa using hc
   rw [L (fun hh=>hc hh.1)] at h
   obtain ⟨rfl,rfl⟩:acc=l/\want p [41]=q:=by simpa using h
   have hw:=fM p [41] x hp;subst bK;refine cw ?_;refine D ?_;refine cD ?_;refine D ?_;refine V [0] hw ?_;refine GW.wk (Wk.jD (t:=4) rfl rfl rfl hn) ?_;exact aj
theorem PR {f:Nat} (C:JD f) (d:Nat) (p:RS) (t:T) (q:RS) (x:PX) (hp:p.ok) (hd:d+(f+1)<=1099511627776) (h:iE (f+1) (.operand d) p=some (t,q)) :
  GF prog 289 [.loc 0 0,.v (ii (d:Nat))] [cm p x] (qT t) [cm q x]:=by
 rw [iE] at h;have eJ:=xL p d x hp;have ht:=tf p 0 x hp aU
 by_cases hc:(cr p d).code=0
 case neg =>
  have dY:((cr p d).code==0)=false:=by simpa using hc
  rw [L hc] at h;rw [dY] at eJ;cases h;refine ah func289 ntmps289 ?_;refine V [0] ht ?_;refine V [0] eJ ?_;refine V [] IW ?_;exact aj
 case pos =>
 have dY:((cr p d).code==0)=true:=by simpa using hc
 rw [ab hc] at h;rw [dY,qb hc] at eJ;clear hc dY;have F:=lq p 0 [45] x hp aU;have I:=lq p 0 [33] x hp aU;have h3:=lq p 0 [126] x hp aU;have cZ:=hp.2;have Fh:=hp.1
 cases iQ:is p 0 [45] with
 | true =>
  rw [iQ] at F;rw [ab (.inl iQ)] at h;have ak:p.i < p.l.length:=is_lt (k:=0) iQ;have dL:=(ep ak).ok hp
  cases hb:iE f (.operand (d+1)) p.next with
  | none=>rw [hb] at h;cases h
  | some r =>
   obtain ⟨b,p2⟩:=r;rw [hb] at h;cases h
   have zy:=C.operand (d+1) p.next b _ x dL G hb
   generalize tok p 0=tk at *;have jH:=fy 5 tk.at_ tk.s [b] [[qT b]] (iV _);refine ah func289 ntmps289 ?_;refine V [0] ht ?_;refine V [0] eJ ?_;refine V [0] F ?_;refine aL (aD 0 7 (.a 7 (.a 8 (.a 9 (.q 10 .nil))))) ?_;refine ao ?_;refine aI [0] zy ?_;refine dC ?_;refine ao ?_;refine aI [] jH ?_;exact ay
 | false =>
 rw [iQ] at F
 cases kj:is p 0 [33] with
 | true =>
  rw [kj] at I;rw [ab (.inr (.inl kj))] at h;have ak:p.i < p.l.length:=is_lt (k:=0) kj;have dL:=(ep ak).ok hp
  cases hb:iE f (.operand (d+1)) p.next with
  | none=>rw [hb] at h;cases h
  | some r =>
   obtain ⟨b,p2⟩:=r;rw [hb] at h;cases h
   have zy:=C.operand (d+1) p.next b _ x dL G hb
   generalize tok p 0=tk at *;have jH:=fy 5 tk.at_ tk.s [b] [[qT b]] (iV _);refine ah func289 ntmps289 ?_;refine V [0] ht ?_;refine V [0] eJ ?_;refine V [0] F ?_;refine V [0] I ?_;refine aL (aD 0 7 (.a 7 (.a 8 (.a 9 (.q 10 .nil))))) ?_;refine ao ?_;refine aI [0] zy ?_;refine dC ?_;refine ao ?_;refine aI [] jH ?_;exact ay
 | false =>
 rw [kj] at I
 cases tY:is p 0 [126] with
 | true =>
  rw [tY] at h3;rw [ab (.inr (.inr tY))] at h;have ak:p.i < p.l.length:=is_lt (k:=0) tY;have dL:=(ep ak).ok hp
  cases hb:iE f (.operand (d+1)) p.next with
  | none=>rw [hb] at h;cases h
  | some r =>
   obtain ⟨b,p2⟩:=r;rw [hb] at h;cases h
   have zy:=C.operand (d+1) p.next b _ x dL G hb
   generalize tok p 0=tk at *;have jH:=fy 5 tk.at_ tk.s [b] [[qT b]] (iV _);refine ah func289 ntmps289 ?_;refine V [0] ht ?_;refine V [0] eJ ?_;refine V [0] F ?_;refine V [0] I ?_;refine V [0] h3 ?_;refine aL (aD 0 7 (.a 7 (.a 8 (.a 9 (.q 10 .nil))))) ?_;refine ao ?_;refine aI [0] zy ?_;refine dC ?_;refine ao ?_;refine aI [] jH ?_;exact ay
 | false =>
 rw [tY] at h3;rw [L (by rw [iQ,kj,tY];decide)] at h
 by_cases hk:(tok p 0).kind=1
 case pos =>
  rw [ab hk] at h;have ak:p.i < p.l.length:=tH (k:=0) G
  have mW:((tok p 0).kind==1)=true:=by simpa using hk
  cases h;generalize tok p 0=tk at *;have jH:=PM 1 tk.at_ [] [];refine ah func289 ntmps289 ?_;refine V [0] ht ?_;refine V [0] eJ ?_;refine V [0] F ?_;refine V [0] I ?_;refine V [0] h3 ?_;refine V [] jH ?_;refine GW.wk (Wk.freeze (i:=2) rfl rfl rfl (fq rfl)) ?_;exact aj
 case neg =>
 rw [L hk] at h
 have mW:((tok p 0).kind==1)=false:=by simpa using hk
 have h4:=lq p 0 [40] x hp aU
 cases hs4:is p 0 [40] with
 | true =>
  rw [hs4] at h4;rw [ab hs4] at h;have ak:p.i < p.l.length:=is_lt (k:=0) hs4;have dL:=(ep ak).ok hp
  cases hb:iE f (.expr (d+1)) p.next with
  | none=>rw [hb] at h;cases h
  | some r =>
   obtain ⟨b,p2⟩:=r;rw [hb] at h;cases h;have ef:=((km f).1 _ _ _ _ dL hb).ok dL
   have zy:=C.expr (d+1) p.next _ p2 x dL G hb
   have hw:=fM p2 [41] x ef;generalize tok p 0=tk at *;refine ah func289 ntmps289 ?_;refine V [0] ht ?_;refine V [0] eJ ?_;refine V [0] F ?_;refine V [0] I ?_;refine V [0] h3 ?_;refine V [0] h4 ?_;refine V [0] zy ?_;refine cD ?_;refine D ?_;refine V [0] hw ?_;exact aj
 | false =>
 rw [hs4] at h4;rw [L (by rw [hs4];decide)] at h;have hn:=sA p x hp;have dL:=(jt hp).ok hp
 by_cases nC:(bL p).code=0
 case neg =>
  rw [L nC] at h
  have aaX:((bL p).code != 0)=true:=by simpa using nC
  cases h;generalize tok p 0=tk at *;generalize bL p=p1 at *;have jH:=fy 2 tk.at_ tk.s [] [] rfl;refine ah func289 ntmps289 ?_;refine V [0] ht ?_;refine V [0] eJ ?_;refine V [0] F ?_;refine V [0] I ?_;refine V [0] h3 ?_;refine V [0] h4 ?_;refine V [0] hn ?_;refine V [] jH ?_;exact aj
 case pos =>
 rw [ab nC] at h
 have aaX:((bL p).code != 0)=false:=by simpa using nC
 generalize bL p=p1 at *;generalize tok p 0=tk at *;have h5:=lq p1 0 [91] x dL aU;have acd:=dL.2;have acb:=dL.1
 cases hs5:is p1 0 [91] with
 | true =>
  rw [hs5] at h5;rw [ab hs5] at h;have ak:p1.i < p1.l.length:=is_lt (k:=0) hs5;have Ho:=(ep ak).ok dL
  cases hb:iE f (.expr (d+1)) p1.next with
  | none=>rw [hb] at h;cases h
  | some r =>
   obtain ⟨b,p2⟩:=r;rw [hb] at h;cases h;have ef:=((km f).1 _ _ _ _ Ho hb).ok Ho
   have zy:=C.expr (d+1) p1.next b p2 x Ho G hb
   have hw:=fM p2 [93] x ef;have jH:=fy 3 tk.at_ tk.s [b] [[qT b]] (iV _);refine ah func289 ntmps289 ?_;refine V [0] ht ?_;refine V [0] eJ ?_;refine V [0] F ?_;refine V [0] I ?_;refine V [0] h3 ?_;refine V [0] h4 ?_;refine V [0] hn ?_;refine V [0] h5 ?_;refine V [0] zy ?_;refine cD ?_;refine D ?_;refine V [0] hw ?_;refine cD ?_;refine D ?_;refine V [] jH ?_;exact aj
 | false =>
 rw [hs5] at h5;rw [L (by rw [hs5];decide)] at h;have h6:=lq p1 0 [40] x dL aU
 cases hs6:is p1 0 [40] with
 | true =>
  rw [hs6] at h6;rw [ab hs6] at h;have ak:p1.i < p1.l.length:=is_lt (k:=0) hs6;have Ho:=(ep ak).ok dL
  cases hb:iA f (d+1) [] p1.next with
  | none=>rw [hb] at h;cases h
  | some r =>
   obtain ⟨b,p2⟩:=r;rw [hb] at h;cases h
   have zy:=C.exprs (d+1) p1.next b _ x Ho G hb
   have jH:=fy 4 tk.at_ tk.s b (lI b) rfl;refine ah func289 ntmps289 ?_;refine V [0] ht ?_;refine V [0] eJ ?_;refine V [0] F ?_;refine V [0] I ?_;refine V [0] h3 ?_;refine V [0] h4 ?_;refine V [0] hn ?_;refine V [0] h5 ?_;refine V [0] h6 ?_;refine aL (aD 0 6 (.a 6 (.a 7 (.q 8 .nil)))) ?_;refine ao ?_;refine aI [0] zy ?_;refine aI [] jH ?_;exact ay
 | false =>
  rw [hs6] at h6;rw [L (by rw [hs6];decide)] at h;cases h;have jH:=fy 2 tk.at_ tk.s [] [] rfl;refine ah func289 ntmps289 ?_;refine V [0] ht ?_;refine V [0] eJ ?_;refine V [0] F ?_;refine V [0] I ?_;refine V [0] h3 ?_;refine V [0] h4 ?_;refine V [0] hn ?_;refine V [0] h5 ?_;refine V [0] h6 ?_;refine V [] jH ?_;exact aj
theorem ies (f:Nat):JD f:=by
 induction f using Nat.strongRecOn with
 | _ f ih =>
  cases f with
  | zero=>exact ⟨fun d p t q x _ _ h=>by simp [iE] at h,fun k d p t q x _ _ _ h=>by simp [iE] at h,fun d p t q x _ _ h=>by simp [iE] at h,fun d p l q x _ _ h=>by simp [iA] at h⟩
  | succ f =>
   have C:=ih f (Nat.lt_succ_self f)
   have Cs:∀ f',f'<=f->JD f':=fun f' h=>ih f' (Nat.lt_succ_of_le h)
   exact ⟨fun d p t q x hp hd h=>Wi C d p t q x hp hd h,fun k d p t q x hp hk hd h=>U9 Cs k d p t q x hp hk hd h,fun d p t q x hp hd h=>PR C d p t q x hp hd h,fun d p l q x hp hd h=>UM Cs d p l q x hp hd h⟩
end Go.Xg
namespace Go.Im
open Go.Xp Go.Sp
def YB (f d:Nat) (p:RS):Option (T × RS) :=
 if (tok p 0).kind=2/\is p 1 [61]=true then match iE f (.expr (d+1)) (want (bL p) [61]) with
  | none=>none
  | some (e,q)=>some (one 7 (tok p 0).at_ (tok p 0).s [e],want q [59])
 else match iE f (.expr (d+1)) p with
  | none=>none
  | some (e,q) =>
   if yt p q e then match e.kids,iE f (.expr (d+1)) (want q [61]) with
    | a::_,some (v,q)=>some (one 8 (tok p 0).at_ e.n.s [a,v],want q [59])
    | _,_=>none
   else some (one 12 (tok p 0).at_ [] [e],want q [59])
end Go.Im
namespace Go.Xg
open GV (U)
open Go.RowKit Go.Xw Go.Proofs Tryz
open Go.Xp (Tok Nd T bH one levels ja eP fi en dV pY)
open Go.Sp Go.Im
attribute [local irreducible] GW GL GO YG GC GA be bg
theorem SC {f:Nat} (d:Nat) (p:RS) (t:T) (q:RS) (x:PX) (hp:p.ok) (hd:d+1+f<=1099511627776) (h:YB f d p=some (t,q)) :
  GF prog 272 [.loc 0 0,.v (ii (d:Nat))] [cm p x] (qT t) [cm q x]:=by
 unfold YB at h;have C:=ies f;have ht:=tf p 0 x hp aU;have hi:=lq p 1 [61] x hp aU
 have main:∀ kk,((tok p 0).kind==2)=kk->(kk=true->is p 1 [61]=false)->GF prog 272 [.loc 0 0,.v (ii (d:Nat))] [cm p x] (qT t) [cm q x]:=by
  intro kk hk tt
  rw [L (fun hh=>by
   have F:kk=true:=by rw [<-hk];simpa using hh.1
   have I:=tt F
   rw [hh.2] at I;cases I)] at h
  cases he:iE f (.expr (d+1)) p with
  | none=>rw [he] at h;cases h
  | some r =>
   obtain ⟨e,q1⟩:=r;rw [he] at h;simp only at h;have qi:=((km f).1 _ _ _ _ hp he).ok hp;have aci:=qi.1;have acj:=qi.2;have hex:=C.expr (d+1) p e q1 x hp G he;have TH:=lq q1 0 [61] x qi aU
   have G3:e.n.kind=3->q1.code=0->∃ Bq,q1.l[q1.i - 1]?=some Bq/\vM q1=Bq.s/\1<=q1.i:=by
    intro _ hc;have F:=XP f _ _ _ _ hp he hc (fun k d out h=>by cases h);have I:=qi.1
    have ak:q1.i - 1 < q1.l.length:=by omega
    exact ⟨q1.l[q1.i - 1],by simp [ak],by unfold vM;simp [ak],by omega⟩
   by_cases kD:yt p q1 e
   ·rw [ab kD] at h;have ma:=kD;obtain ⟨s1,s2,s3,s4,s5,s6⟩:=ma;obtain ⟨Bq,a1,a2,a3⟩:=G3 s1 s2
    have gy:kk=true:=by rw [<-hk];simpa using s5
    subst gy;have A7:=tt rfl;rw [A7] at hi;rw [s6] at TH
    match Kj:e.kids,hv:iE f (.expr (d+1)) (want q1 [61]),h with
    | a::rk,some (v,q2),h =>
     cases h;have nE:=(cR qi [61]).ok qi;have C0:=((km f).1 _ _ _ _ nE hv).ok nE;have hw:=fM q1 [61] x qi;have aa2:=C.expr (d+1) _ v q2 x nE G hv;have qj:=fM q2 [59] x C0;have hr:=lS a1;have eg:(lI e.kids)[0]?=some [qT a]:=Dt (by rw [Kj];rfl);have TM:(lI (a::rk))[0]?=some [qT a]:=Dt rfl
     have b1:(e.n.kind==3)=true:=by simpa using s1
     have b2:(q1.code==0)=true:=by simpa using s2
     have b3:(Bq.s==[93])=true:=by rw [<-a2];simpa using s3
     have b4:(e.n.at_==(tok p 0).at_)=true:=by simpa using s4
     have jH:=fy 8 (tok p 0).at_ e.n.s [a,v] [[qT a],[qT v]] (iV _);generalize tok p 0=tk at *;refine ah func272 ntmps272 ?_;refine V [0] ht ?_;refine V [0] hi ?_;refine V [0] hex ?_;refine aL (aD 0 45 (.a 45 (.q 46 .nil))) ?_;refine ao ?_;refine b6 [0] TH ?_;refine D ?_;refine cD ?_;refine D ?_;refine V [0] hw ?_;refine V [0] aa2 ?_;refine cD ?_;refine D ?_;refine V [0] qj ?_;refine aL (aD 0 14 (.a 14 (.a 15 (.q 16 .nil)))) ?_;refine ao ?_;refine dC ?_;refine ao ?_;refine aI [] jH ?_;exact ay
    | [],_,h=>simp at h
    | _::_,none,h=>simp at h
   ·rw [L kD] at h;cases h;have hw:=fM q1 [59] x qi;have jH:=fy 12 (tok p 0).at_ [] [e] [[qT e]] (iV _)
    cases kk with
    | true =>
     have A7:=tt rfl;rw [A7] at hi;refine ah func272 ntmps272 ?_;refine V [0] ht ?_;refine V [0] hi ?_;refine V [0] hex ?_;refine GW.join (fun fr Γ=>fr=[.loc 0 0,.v (ii (d:Nat)),U,U,U,.loc 1 0,U,U,qT e,U,U,U,U,U,U,U,U,U,U,U,U,U,U,U,U,U,U,U,U,U,U,U,U,U,U,U,U,U,U,U,U,U,U,U,U,U,U,U,U,U,U,U,U,U,U,U,U,U,U,U,U,U,U,U,U,U,U,U,U,U,U,U,U,U,U,U,U,U,U,U,U,U,U,U,U,U,U,.v (.bool false),U,U,U,U,U,U,U,U,U,U,U,U,U,U,U,U,U,U,U,U,U,U,U,U,U,U,U,U,U,U,U,U,U,U]/\Γ=[cm q1 x,.box 183 (dQ (tok p 0))]) ?_ ?_
     ·by_cases s1:e.n.kind=3
      ·have b1:(e.n.kind==3)=true:=by simpa using s1
       by_cases s2:q1.code=0
       ·have b2:(q1.code==0)=true:=by simpa using s2
        obtain ⟨Bq,a1,a2,a3⟩:=G3 s1 s2;have hr:=lS a1
        by_cases s3:vM q1=[93]
        ·have b3:(Bq.s==[93])=true:=by rw [<-a2];simpa using s3
         by_cases s4:e.n.at_=(tok p 0).at_
         ·have b4:(e.n.at_==(tok p 0).at_)=true:=by simpa using s4
          have s6:is q1 0 [61]=false:=by
           cases h6:is q1 0 [61] with
           | false=>rfl
           | true=>exact absurd ⟨s1,s2,s3,s4,by simpa using hk,h6⟩ kD
          rw [s6] at TH;generalize tok p 0=tk at *;refine aL (aD 0 45 (.a 45 (.q 46 .nil))) ?_;refine ao ?_;refine b6 [0] TH ?_;exact fE
         ·have b4:(e.n.at_==(tok p 0).at_)=false:=by simpa using s4
          generalize tok p 0=tk at *;refine aL (aD 0 45 (.a 45 (.q 46 .nil))) ?_;refine bx ?_;exact fL
        ·have b3:(Bq.s==[93])=false:=by rw [<-a2];simpa using s3
         generalize tok p 0=tk at *;refine aL (aD 0 45 (.a 45 (.q 46 .nil))) ?_;refine bx ?_;exact fL
       ·have b2:(q1.code==0)=false:=by simpa using s2
        generalize tok p 0=tk at *;refine aL (aD 0 45 (.a 45 (.q 46 .nil))) ?_;refine bx ?_;exact fL
      ·have b1:(e.n.kind==3)=false:=by simpa using s1
       generalize tok p 0=tk at *;refine aL (aD 0 45 (.a 45 (.q 46 .nil))) ?_;refine bx ?_;exact fL
     ·rintro _ _ ⟨rfl,rfl⟩;generalize tok p 0=tk at *;refine D ?_;refine cD ?_;refine D ?_;refine V [0] hw ?_;refine cD ?_;refine D ?_;refine V [] jH ?_;exact aj
    | false =>
     refine ah func272 ntmps272 ?_;refine V [0] ht ?_;refine V [0] hex ?_;refine GW.join (fun fr Γ=>fr=[.loc 0 0,.v (ii (d:Nat)),U,U,U,.loc 1 0,U,U,qT e,U,U,U,U,U,U,U,U,U,U,U,U,U,U,U,U,U,U,U,U,U,U,U,U,U,U,U,U,U,U,U,U,U,U,U,U,U,U,U,U,U,U,U,U,U,U,U,U,U,U,U,U,U,U,U,U,U,U,U,U,U,U,U,U,U,U,U,U,U,U,U,U,U,U,U,U,U,U,.v (.bool false),U,U,U,U,U,U,U,U,U,U,U,U,U,U,U,U,U,U,U,U,U,U,U,U,U,U,U,U,U,U,U,U,U,U]/\Γ=[cm q1 x,.box 183 (dQ (tok p 0))]) ?_ ?_
     ·by_cases s1:e.n.kind=3
      ·have b1:(e.n.kind==3)=true:=by simpa using s1
       by_cases s2:q1.code=0
       ·have b2:(q1.code==0)=true:=by simpa using s2
        obtain ⟨Bq,a1,a2,a3⟩:=G3 s1 s2;have hr:=lS a1
        by_cases s3:vM q1=[93]
        ·have b3:(Bq.s==[93])=true:=by rw [<-a2];simpa using s3
         by_cases s4:e.n.at_=(tok p 0).at_
         ·have b4:(e.n.at_==(tok p 0).at_)=true:=by simpa using s4
          generalize tok p 0=tk at *;refine aL (aD 0 45 (.a 45 (.q 46 .nil))) ?_;refine bx ?_;exact fL
         ·have b4:(e.n.at_==(tok p 0).at_)=false:=by simpa using s4
          generalize tok p 0=tk at *;refine aL (aD 0 45 (.a 45 (.q 46 .nil))) ?_;refine bx ?_;exact fL
        ·have b3:(Bq.s==[93])=false:=by rw [<-a2];simpa using s3
         generalize tok p 0=tk at *;refine aL (aD 0 45 (.a 45 (.q 46 .nil))) ?_;refine bx ?_;exact fL
       ·have b2:(q1.code==0)=false:=by simpa using s2
        generalize tok p 0=tk at *;refine aL (aD 0 45 (.a 45 (.q 46 .nil))) ?_;refine bx ?_;exact fL
      ·have b1:(e.n.kind==3)=false:=by simpa using s1
       generalize tok p 0=tk at *;refine aL (aD 0 45 (.a 45 (.q 46 .nil))) ?_;refine bx ?_;exact fL
     ·rintro _ _ ⟨rfl,rfl⟩;generalize tok p 0=tk at *;refine D ?_;refine cD ?_;refine D ?_;refine V [0] hw ?_;refine cD ?_;refine D ?_;refine V [] jH ?_;exact aj
 by_cases hk:(tok p 0).kind=2
 ·cases A7:is p 1 [61] with
  | true =>
   clear main;rw [ab ⟨hk,A7⟩] at h;rw [A7] at hi
   have mW:((tok p 0).kind==2)=true:=by simpa using hk
   have hn:=sA p x hp;have dL:=(jt hp).ok hp;have hw:=fM (bL p) [61] x dL;have nE:=(cR dL [61]).ok dL
   cases he:iE f (.expr (d+1)) (want (bL p) [61]) with
   | none=>rw [he] at h;cases h
   | some r =>
    obtain ⟨e,q1⟩:=r;rw [he] at h;cases h;have qi:=((km f).1 _ _ _ _ nE he).ok nE;have hex:=C.expr (d+1) _ e q1 x nE G he;have qj:=fM q1 [59] x qi;have jH:=fy 7 (tok p 0).at_ (tok p 0).s [e] [[qT e]] (iV _);generalize tok p 0=tk at *;refine ah func272 ntmps272 ?_;refine V [0] ht ?_;refine V [0] hi ?_;refine V [0] hn ?_;refine cD ?_;refine D ?_;refine V [0] hw ?_;refine V [0] hex ?_;refine cD ?_;refine D ?_;refine V [0] qj ?_;refine cD ?_;refine D ?_;refine V [] jH ?_;exact aj
  | false=>exact main true (by simpa using hk) (fun _=>A7)
 ·exact main false (by simpa using hk) (fun h=>by cases h)
end Go.Xg
namespace Go.Xg
open GV (U)
open Go.RowKit Go.Xw Go.Proofs Tryz
open Go.Xp (Tok Nd T bH one levels ja eP fi en dV pY si)
open Go.Sp Go.Im
attribute [local irreducible] GW GL GO YG GC GA be bg
theorem PL (k a:Int) (s:ae):GF prog 246 [.v (ii k),.v (ii a),.v (sv s),.v (.slice none 0 0)] [] (.loc 0 0) [.box 170 [.v (ii k),.v (ii a),.v (ii 0),.v (sv s),.v (.slice none 0 0),.v (.slice none 0 0)]]:=by
 refine ah func246 ntmps246 ?_;refine GW.wk (Wk.cells 0 rfl (ds:=[.v (ii k),.v (ii a),.v (ii 0),.v (sv s),.v (.slice none 0 0),.v (.slice none 0 0)]) gS) ?_;refine GW.ret ?_;refine xP (n:=1) rfl dI rfl (aM _) rfl rfl ?_;exact ⟨rfl,rfl⟩
structure S8 (f:Nat):Prop where
 block:∀ d p t q x,p.ok->d+3+f<=1099511627776->iS f (.block d) p=some (t,q)->GF prog 210 [.loc 0 0,.v (ii (d:Nat))] [cm p x] (qT t) [cm q x]
 stmt:∀ d p t q x,p.ok->d+3+f<=1099511627776->iS f (.stmt d) p=some (t,q)->GF prog 248 [.loc 0 0,.v (ii (d:Nat))] [cm p x] (qT t) [cm q x]
theorem Uz {f:Nat} (C:∀ f',f'<=f->S8 f') (d:Nat) (p:RS) (t:T) (q:RS) (x:PX) (hp:p.ok) (hd:d+3+(f+1)<=1099511627776) (h:iS (f+1) (.block d) p=some (t,q)) :
  GF prog 210 [.loc 0 0,.v (ii (d:Nat))] [cm p x] (qT t) [cm q x]:=by
 rw [iS] at h;have eJ:=xL p d x hp;have ht:=tf p 0 x hp aU;have Ba:=PL 14 (tok p 0).at_ []
 by_cases hc:(cr p d).code=0
 case neg =>
  have dY:((cr p d).code==0)=false:=by simpa using hc
  rw [L hc] at h;rw [dY] at eJ;cases h;generalize tok p 0=tk at *;refine ah func210 ntmps210 ?_;refine V [0] ht ?_;refine V [] Ba ?_;refine V [0] eJ ?_;refine GW.wk (Wk.cells 1 rfl (ds:=[.v (ii 14),.v (ii tk.at_),.v (ii 0),.v (sv []),.v (.slice none 0 0),.sl 1 []]) gS) ?_;refine GW.wk (Wk.freeze (i:=1) rfl rfl rfl (fq rfl)) ?_;exact aj
 case pos =>
 have dY:((cr p d).code==0)=true:=by simpa using hc
 rw [ab hc] at h;rw [dY,qb hc] at eJ;clear hc dY;have nE:=(cR hp [123]).ok hp;have hw:=fM p [123] x hp
 cases he:iB f (d+1) [] (want p [123]) with
 | none=>rw [he] at h;cases h
 | some r =>
  obtain ⟨l,q1⟩:=r;rw [he] at h;cases h;generalize tok p 0=tk at *;refine ah func210 ntmps210 ?_;refine V [0] ht ?_;refine V [] Ba ?_;refine V [0] eJ ?_;refine cD ?_;refine D ?_;refine V [0] hw ?_;refine GW.wk (Wk.wo (i:=1) (o:=5) 131 1 rfl rfl) ?_;refine GW.loop (fun z:Nat × List T × RS=>z.1) (fun z fr Γ=>∃ n rows,fr=[.loc 0 0,.v (ii (d:Nat)),U,U,U,.loc 1 0,U,U,U,U,U,U,U,U,U,U,U,U,U,U,U,U,U,U,U,U,U,U,U,U,U,U,U,U,U,U,U,U,U,U,U,U,U,U,U]/\Γ=[cm z.2.2 x,.box 170 [.v (ii 14),.v (ii tk.at_),.v (ii 0),.v (sv []),.v (.slice none 0 0),.vec 2 n],.vec 131 1 0 rows]/\rows.length=n/\rows=lI z.2.1/\n+z.1<=f/\z.2.2.ok/\iB z.1 (d+1) z.2.1 z.2.2=some (l,q1)) (f,[],want p [123]) ?_ ?_
  ·exact ⟨_,_,Wk.aH ar,0,[],rfl,rfl,rfl,rfl,by simp,nE,he⟩
  ·clear he nE hw eJ ht;rintro ⟨g,acc,p⟩ _ _ ⟨n,rows,rfl,rfl,hn,bK,Bb,hp,h⟩;simp only at bK Bb hp h
   cases g with
   | zero=>simp [iB] at h
   | succ g =>
   rw [iB] at h;have hi:=lq p 0 [125] x hp aU
   by_cases hc:p.code=0
   ·have dY:(p.code==0)=true:=by simpa using hc
    cases hs:is p 0 [125] with
    | true =>
     rw [hs] at hi;rw [L (fun hh=>by have:=hh.2;rw [hs] at this;cases this)] at h
     obtain ⟨rfl,rfl⟩:acc=l/\p=q1:=by simpa using h
     have hw:=fM p [125] x hp;subst bK;refine D ?_;refine V [0] hi ?_;refine ky ?_;refine D ?_;refine cD ?_;refine D ?_;refine V [0] hw ?_;refine GW.wk (Wk.qz (i:=1) (o:=5) rfl rfl rfl rfl hn) ?_;refine GW.wk (Wk.freeze (i:=1) rfl rfl rfl (fq rfl)) ?_;exact aj
    | false =>
     rw [hs] at hi;rw [ab ⟨hc,hs⟩] at h
     cases hb:iS g (.stmt (d+1)) p with
     | none=>rw [hb] at h;cases h
     | some r =>
      obtain ⟨a,p2⟩:=r;rw [hb] at h;simp only at h;have ef:=((Ge g).1 _ _ _ _ hp hb).ok hp;have cj:=(C g G).stmt (d+1) p a p2 x hp G hb;refine D ?_;refine V [0] hi ?_;refine aL (aD 0 8 (.a 8 (.a 9 (.a 10 (.q 11 (.q 12 (.a 13 .nil))))))) ?_;refine ao ?_;refine aI [0] cj ?_;refine dC ?_;refine ao ?_;refine nu ?_;refine bx ?_;exact ⟨(g,acc++[a],p2),⟨_,_,Wk.aH ar,_,_,rfl,rfl,by simp [hn],by rw [xk,bK];rfl,by show n+1+g<=f;omega,ef,h⟩,by simp⟩
   ·have dY:(p.code==0)=false:=by simpa using hc
    rw [L (fun hh=>hc hh.1)] at h
    obtain ⟨rfl,rfl⟩:acc=l/\p=q1:=by simpa using h
    have hw:=fM p [125] x hp;subst bK;refine cw ?_;refine D ?_;refine cD ?_;refine D ?_;refine V [0] hw ?_;refine GW.wk (Wk.qz (i:=1) (o:=5) rfl rfl rfl rfl hn) ?_;refine GW.wk (Wk.freeze (i:=1) rfl rfl rfl (fq rfl)) ?_;exact aj
theorem YI {f:Nat} (C:S8 f) (d:Nat) (p:RS) (t:T) (q:RS) (x:PX) (hp:p.ok) (hd:d+3+(f+1)<=1099511627776) (h:iS (f+1) (.stmt d) p=some (t,q)) :
  GF prog 248 [.loc 0 0,.v (ii (d:Nat))] [cm p x] (qT t) [cm q x]:=by
 rw [iS] at h;have E:=ies f;have eJ:=xL p d x hp;have ht:=tf p 0 x hp aU
 by_cases hc:(cr p d).code=0
 case neg =>
  have dY:((cr p d).code==0)=false:=by simpa using hc
  rw [L hc] at h;rw [dY] at eJ;cases h;refine ah func248 ntmps248 ?_;refine V [0] ht ?_;refine V [0] eJ ?_;refine V [] IW ?_;exact aj
 case pos =>
 have dY:((cr p d).code==0)=true:=by simpa using hc
 rw [ab hc] at h;rw [dY,qb hc] at eJ;clear hc dY;have cZ:=hp.2;have Fh:=hp.1;have F:=lq p 0 ja x hp aU;have I:=lq p 0 eP x hp aU;have h3:=lq p 0 en x hp aU;have h4:=lq p 0 dV x hp aU
 cases iQ:is p 0 ja with
 | true =>
  rw [iQ] at F;rw [ab iQ] at h;have ak:p.i < p.l.length:=is_lt (k:=0) iQ;have dL:=(ep ak).ok hp
  have hn:=sA p.next x dL
  have qN:=(jt dL).ok dL;have hw:=fM _ [61] x qN;have nE:=(cR qN [61]).ok qN
  cases he:iE f (.expr (d+1)) (want (bL p.next) [61]) with
  | none=>rw [he] at h;cases h
  | some r =>
   obtain ⟨e,q1⟩:=r;rw [he] at h;cases h;have qi:=((km f).1 _ _ _ _ nE he).ok nE;have hex:=E.expr (d+1) _ e q1 x nE G he;have qj:=fM q1 [59] x qi;have jH:=fy 13 (tok p 0).at_ (tok p.next 0).s [e] [[qT e]] (iV _);generalize tok p 0=tk at *
   generalize tok p.next 0=tn at *
   refine ah func248 ntmps248 ?_;refine V [0] ht ?_;refine V [0] eJ ?_;refine V [0] F ?_;refine V [0] hn ?_;refine cD ?_;refine D ?_;refine V [0] hw ?_;refine V [0] hex ?_;refine cD ?_;refine D ?_;refine V [0] qj ?_;refine cD ?_;refine D ?_;refine V [] jH ?_;exact aj
 | false =>
 rw [iQ] at F;rw [L (by rw [iQ];decide)] at h
 have main:∀ bi bw:Bool,is p 0 eP=bi->is p 0 en=bw->(bi=true\/bw=true)->GF prog 248 [.loc 0 0,.v (ii (d:Nat))] [cm p x] (qT t) [cm q x]:=by
  intro bi bw wR hbw wX
  have oG:is p 0 eP=true\/is p 0 en=true:=by rw [wR,hbw];exact wX
  have ak:p.i < p.l.length:=by rcases oG with hh | hh <;> exact is_lt (k:=0) hh
  rw [ab oG] at h;have dL:=(ep ak).ok hp
  have hw:=fM p.next [40] x dL
  have nE:=(cR dL [40]).ok dL
  cases he:iE f (.expr (d+1)) (want p.next [40]) with
  | none=>rw [he] at h;cases h
  | some r =>
  obtain ⟨c,q1⟩:=r;rw [he] at h;simp only at h;have qi:=((km f).1 _ _ _ _ nE he).ok nE;have hex:=E.expr (d+1) _ c q1 x nE G he;have qj:=fM q1 [41] x qi;have XC:=(cR qi [41]).ok qi
  cases hb:iS f (.block (d+1)) (want q1 [41]) with
  | none=>rw [hb] at h;cases h
  | some r =>
  obtain ⟨b,q2⟩:=r;rw [hb] at h;simp only at h;have C0:=((Ge f).1 _ _ _ _ XC hb).ok XC;have acm:=C0.2;have ack:=C0.1;have ey:=C.block (d+1) _ b q2 x XC G hb;have eB:=lq q2 0 fi x C0 aU;rw [wR] at I;rw [hbw] at h3
  cases bi with
  | true =>
   have Mb:∀ (cc ee:Bool),(q2.code==0)=cc->is q2 0 fi=ee->(cc=false\/ee=false)->GF prog 248 [.loc 0 0,.v (ii (d:Nat))] [cm p x] (qT t) [cm q x]:=by
    intro cc ee uQ wT Xz
    rw [L (fun hh=>by
     rcases Xz with h0 | h0
     ·rw [h0] at uQ;have:=hh.2.1;simp [this] at uQ
     ·rw [h0] at wT;rw [wT] at hh;exact absurd hh.2.2 aU),ab wR] at h
    cases h;rw [wT] at eB;have jH:=fy 9 (tok p 0).at_ [] [c,b] [[qT c],[qT b]] (iV _);generalize tok p 0=tk at *
    cases cc with
    | true =>
     cases ee with
     | true=>simp at Xz
     | false =>
      refine ah func248 ntmps248 ?_;refine V [0] ht ?_;refine V [0] eJ ?_;refine V [0] F ?_;refine V [0] I ?_;refine V [0] I ?_;refine cD ?_;refine D ?_;refine V [0] hw ?_;refine V [0] hex ?_;refine rP ?_;refine D ?_;refine cD ?_;refine D ?_;refine V [0] qj ?_;refine V [0] ey ?_;refine fk ?_;refine D ?_;refine V [0] eB ?_;refine GL.wk (Wk.jD (t:=108) rfl rfl rfl rfl) ?_;refine dk ?_;refine V [] jH ?_;exact aj
    | false =>
     refine ah func248 ntmps248 ?_;refine V [0] ht ?_;refine V [0] eJ ?_;refine V [0] F ?_;refine V [0] I ?_;refine V [0] I ?_;refine cD ?_;refine D ?_;refine V [0] hw ?_;refine V [0] hex ?_;refine rP ?_;refine D ?_;refine cD ?_;refine D ?_;refine V [0] qj ?_;refine V [0] ey ?_;refine fk ?_;refine D ?_;refine GL.wk (Wk.jD (t:=108) rfl rfl rfl rfl) ?_;refine dk ?_;refine V [] jH ?_;exact aj
   by_cases ll:q2.code=0
   ·cases wT:is q2 0 fi with
    | true =>
     clear Mb;rw [ab ⟨wR,ll,wT⟩] at h;rw [wT] at eB
     have uQ:(q2.code==0)=true:=by simpa using ll
     have ov:q2.i < q2.l.length:=is_lt (k:=0) wT;have OZ:=(ep ov).ok C0
     cases eA:iS f (.block (d+1)) q2.next with
     | none=>rw [eA] at h;cases h
     | some r =>
      obtain ⟨b2,q3⟩:=r;rw [eA] at h;cases h;have Zj:=C.block (d+1) _ b2 _ x OZ G eA;have jH:=fy 9 (tok p 0).at_ [] [c,b,b2] [[qT c],[qT b],[qT b2]] (iV _);generalize tok p 0=tk at *;refine ah func248 ntmps248 ?_;refine V [0] ht ?_;refine V [0] eJ ?_;refine V [0] F ?_;refine V [0] I ?_;refine V [0] I ?_;refine cD ?_;refine D ?_;refine V [0] hw ?_;refine V [0] hex ?_;refine rP ?_;refine D ?_;refine cD ?_;refine D ?_;refine V [0] qj ?_;refine V [0] ey ?_;refine fk ?_;refine D ?_;refine V [0] eB ?_;refine V [0] Zj ?_;refine fk ?_;refine D ?_;refine GL.wk (Wk.jD (t:=108) rfl rfl rfl rfl) ?_;refine dk ?_;refine V [] jH ?_;exact aj
    | false=>exact Mb true false (by simpa using ll) wT (.inr rfl)
   ·exact Mb false _ (by simpa using ll) rfl (.inl rfl)
  | false =>
   have aaV:bw=true:=by simpa using wX
   subst aaV;rw [L (fun hh=>by have:=hh.1;rw [wR] at this;cases this),L (by rw [wR];decide)] at h;cases h;have jH:=fy 10 (tok p 0).at_ [] [c,b] [[qT c],[qT b]] (iV _);generalize tok p 0=tk at *;refine ah func248 ntmps248 ?_;refine V [0] ht ?_;refine V [0] eJ ?_;refine V [0] F ?_;refine V [0] I ?_;refine V [0] h3 ?_;refine V [0] I ?_;refine cD ?_;refine D ?_;refine V [0] hw ?_;refine V [0] hex ?_;refine rP ?_;refine D ?_;refine cD ?_;refine D ?_;refine V [0] qj ?_;refine V [0] ey ?_;refine fk ?_;refine D ?_;refine GL.wk (Wk.jD (t:=108) rfl rfl rfl rfl) ?_;refine dk ?_;refine V [] jH ?_;exact aj
 cases kj:is p 0 eP with
 | true=>exact main true _ kj rfl (.inl rfl)
 | false =>
 cases tY:is p 0 en with
 | true=>exact main false true kj tY (.inr rfl)
 | false =>
 clear main;rw [kj] at I;rw [tY] at h3;rw [L (by rw [kj,tY];decide)] at h
 cases hs4:is p 0 dV with
 | true =>
  rw [hs4] at h4;rw [ab hs4] at h;have ak:p.i < p.l.length:=is_lt (k:=0) hs4;have dL:=(ep ak).ok hp
  cases he:iE f (.expr (d+1)) p.next with
  | none=>rw [he] at h;cases h
  | some r =>
   obtain ⟨e,q1⟩:=r;rw [he] at h;cases h;have qi:=((km f).1 _ _ _ _ dL he).ok dL;have hex:=E.expr (d+1) _ e q1 x dL G he;have qj:=fM q1 [59] x qi;have jH:=fy 11 (tok p 0).at_ [] [e] [[qT e]] (iV _);generalize tok p 0=tk at *;refine ah func248 ntmps248 ?_;refine V [0] ht ?_;refine V [0] eJ ?_;refine V [0] F ?_;refine V [0] I ?_;refine V [0] h3 ?_;refine V [0] h4 ?_;refine V [0] hex ?_;refine cD ?_;refine D ?_;refine V [0] qj ?_;refine cD ?_;refine D ?_;refine V [] jH ?_;exact aj
 | false =>
  rw [hs4] at h4;rw [L (by rw [hs4];decide)] at h;have XI:=SC (f:=f) d p t q x hp G h;generalize tok p 0=tk at *;refine ah func248 ntmps248 ?_;refine V [0] ht ?_;refine V [0] eJ ?_;refine V [0] F ?_;refine V [0] I ?_;refine V [0] h3 ?_;refine V [0] h4 ?_;refine V [0] XI ?_;exact aj
theorem iss (f:Nat):S8 f:=by
 induction f using Nat.strongRecOn with
 | _ f ih =>
  cases f with
  | zero=>exact ⟨fun d p t q x _ _ h=>by simp [iS] at h,fun d p t q x _ _ h=>by simp [iS] at h⟩
  | succ f =>
   have C:=ih f (Nat.lt_succ_self f)
   have Cs:∀ f',f'<=f->S8 f':=fun f' h=>ih f' (Nat.lt_succ_of_le h)
   exact ⟨fun d p t q x hp hd h=>Uz Cs d p t q x hp hd h,fun d p t q x hp hd h=>YI C d p t q x hp hd h⟩
end Go.Xg
namespace Go.Xg
open GV (U)
open Go.RowKit Go.Xw Go.Proofs Tryz
open Go.Xp (Tok Nd T aK aB eN bN bh)
attribute [local irreducible] GW GL GO YG GC GA be bg
def tR (n:Nd):List GV:=[.v (ii n.kind),.v (ii n.at_),.v (ii n.n),.v (sv n.s),ints n.kids]
def Et (t:T) (x:Value):List GV:=[.v (ii t.n.kind),.v (ii t.n.at_),.v (ii t.n.n),.v (sv t.n.s),.v x]
theorem N6:∀ (N:Nat) (t:T),aK t<=N->∀ (n:Nat) (rows:List (List GV)) (a:Option Addr) (c:Nat),rows.length=n->n+aK t<=1099511627776 ->
  GC prog 126 [.v (.slice a n c),qT t] [.vech 62 5 rows (.slice a n c)] fun g aR=>∃ a c,g=.v (.slice a (n+aK t) c)/\aR=[.vech 62 5 (rows++(eN n t).map tR) (.slice a (n+aK t) c)]:=by
 intro N
 induction N with
 | zero=>intro t h;rw [Go.Xp.fA] at h;omega
 | succ N ih =>
 intro t hN n rows a c hn hb;subst hn;rw [Go.Xp.fA] at hb hN;have fH:=Go.Xp.c6 t.kids;refine ah func126 ntmps126 ?_;refine GL.pI 0 rfl rfl rfl rfl rfl rfl rfl rfl bj sL ?_;intro a c;refine dk ?_;refine D ?_;refine GW.wk (Wk.kE 3 1) ?_
 refine GW.range (lI t.kids).length (fun k fr Γ=>∃ a c a2 c2,fr=[.v (.slice a (rows.length+1+aB (t.kids.take k)) c),qT t,U,U,U,.v (ii (rows.length:Nat)),U,U,U,U,U,U,U,U,U,U,U,U,U,U,.sl 1 (lI t.kids),.v (ii ((lI t.kids).length:Int)),.v (ii (k:Nat)),U,U,U,U,U,U,U,U,U,U,U,U,U,U,U,U,U,U,U,U,U] /\
  Γ=[.vech 62 5 (rows++Et t (.slice a2 k c2)::(bN (rows.length+1) (t.kids.take k)).map tR) (.slice a (rows.length+1+aB (t.kids.take k)) c),.vech 3 1 ((bh (rows.length+1) (t.kids.take k)).map fun z=>[.v (ii z)]) (.slice a2 k c2)]) ?_ (by rw [oo];omega) ?_ ?_ ?_
 ·refine ⟨_,_,Wk.aH ar,a,c,none,0,rfl,?_⟩;rfl
 ·rintro k _ _ ⟨a,c,a2,c2,rfl,rfl⟩;exact dK
 ·rintro k _ _ ak ⟨a,c,a2,c2,rfl,rfl⟩;rw [oo] at ak;obtain ⟨kid,mZ⟩:∃ kid,t.kids[k]?=some kid:=⟨t.kids[k],by simp [ak]⟩;have hr:=Dt mZ;have dr:=Go.Xp.td mZ;have hle:=Go.Xp.s9 t.kids (k+1)
  have jU:t.kids.take (k+1)=t.kids.take k++[kid]:=by rw [cq,mZ];rfl
  have hX:((bN (rows.length+1) (t.kids.take k)).map tR).length=aB (t.kids.take k):=by rw [bP,Go.Xp.ki]
  have Kj:((bh (rows.length+1) (t.kids.take k)).map fun z=>[GV.v (ii z)]).length=k:=by rw [bP,Go.Xp.dF,cX];omega
  rw [jU,Go.Xp.x6,Go.Xp.wM,Go.Xp.oq];simp only [bh,bN,aB,cY,Nat.add_zero,gU,List.map_cons,map_nil,<-gn]
  have zr:=fun (rs:List (List GV)) a c h=>ih kid G (rows.length+1+aB (t.kids.take k)) rs a c h G
  generalize (bN (rows.length+1) (t.kids.take k)).map tR=X at *;generalize ((bh (rows.length+1) (t.kids.take k)).map fun z=>[GV.v (ii z)])=ks at *;generalize aB (t.kids.take k)=s at *;subst Kj
  have kW:∀ r:List GV,(rows++r::X).length=rows.length+1+s:=fun r=>by simp;omega
  have bK:(rows++Et t (.slice a2 ks.length c2)::X)[rows.length]?=some (Et t (.slice a2 ks.length c2)):=by simp
  have gM:=kW (Et t (.slice a2 ks.length c2));unfold Et at bK gM |-;refine D ?_;refine GL.pI 1 rfl rfl rfl rfl rfl rfl rfl rfl bj sL ?_;intro a3 c3;refine dk ?_;refine D ?_;refine kP ?_;rw [Ih];simp only [bp];refine D ?_;refine cM [0] (zr _ _ _ (kW _)) ?_;rintro _ _ ⟨a4,c4,rfl,rfl⟩;refine dH ?_;refine D ?_;refine ⟨rfl,rfl,_,_,Wk.aH ar,a4,c4,a3,c3,rfl,?_⟩;rw [cS];rfl
 ·rintro _ _ ⟨a,c,a2,c2,rfl,rfl⟩;rw [oo,bW];rw [Go.Xp.fA,Go.Xp.N4]
  have Kj:((bh (rows.length+1) t.kids).map fun z=>[GV.v (ii z)]).length=t.kids.length:=by rw [bP,Go.Xp.dF]
  have tt:ints (bh (rows.length+1) t.kids)=.sl 1 ((bh (rows.length+1) t.kids).map fun z=>[GV.v (ii z)]):=rfl;rw [List.map_cons];simp only [tR,Et];rw [tt,show rows.length+(aB t.kids+1)=rows.length+1+aB t.kids by omega];generalize (bN (rows.length+1) t.kids).map tR=X at *;generalize ((bh (rows.length+1) t.kids).map fun z=>[GV.v (ii z)])=ks at *;generalize aB t.kids=s at *
  have bK:∀ r:List GV,(rows++r::X)[rows.length]?=some r:=fun r=>by simp
  refine ba ?_;apply GW.wk
  ·apply Wk.ML (i:=0) (idx:=rows.length) (o:=4) (j:=1)
   ·rfl
   ·exact bK _
   ·rfl
   ·rfl
   ·rfl
  rw [Ih];simp only [bp];refine D ?_;refine cH ?_;exact ⟨_,_,rfl,rfl⟩
end Go.Xg
namespace Go.Xg
open GV (U)
open Go.RowKit Go.Xw Go.Proofs Tryz
open Go.Xp (Tok Nd T bH one levels ja eP fi en dV mK od pY Ar)
open Go.Sp Go.Im
attribute [local irreducible] GW GL GO YG GC GA be bg
structure HW where
 aT:Option Addr
 cT:Nat
 aG:Option Addr
 cG:Nat
 aA:Option Addr
 cA:Nat
 aF:Option Addr
 cF:Nat
def sF (x:Ar):List GV:=[.v (sv x.name),.v (ii x.size)]
def rJ (x:ae × List ae):List GV:=[.v (sv x.1),strs x.2,.v (ii 0)]
def mA (x:ae):List GV:=[.v (sv x)]
abbrev hx (st:PS) (h:HW):PX:=⟨.slice h.aT st.trees.length h.cT,.slice h.aG st.globals.length h.cG,.slice h.aA st.arrays.length h.cA,.slice h.aF st.fns.length h.cF,.slice none 0 0⟩
abbrev we (p:RS) (st:PS) (h:HW):List Ob:=[cm p (hx st h),.vech 131 1 (lI st.trees) (.slice h.aT st.trees.length h.cT),.vech 9 1 (st.globals.map mA) (.slice h.aG st.globals.length h.cG),.vech 56 2 (st.arrays.map sF) (.slice h.aA st.arrays.length h.cA),.vech 58 3 (st.fns.map rJ) (.slice h.aF st.fns.length h.cF)]
theorem ye {α β:Type} (g:α->β) (l:List α) (x:α):(l++[x]).map g=l.map g++[g x]:=by simp
theorem QF {f:Nat} (p:RS) (st:PS) (h:HW) (q:RS) (eX:PS) (n:Nat) (hp:p.ok) (hn:st.le n) (hb:n+1<=1099511627776) (hs:is p 0 mK=true) (hw:iW f p st=some (q,eX)) :
  GC prog 168 [.loc 0 0] (we p st h) (fun g aR=>g=.tup []/\∃ h',aR=we q eX h'):=by
 obtain ⟨Fh,cZ⟩:=id hp;obtain ⟨Hk,b9,Xr,hn4⟩:=hn;unfold iW at hw;rw [ab hs] at hw;have hi:=lq p 0 mK (hx st h) hp aU;rw [hs] at hi;have l8:=(kU hs).ok hp
 have eK:=sA p.next (hx st h) l8
 have ef:=(jt l8).ok l8;generalize (tok p.next 0).s=s at *
 generalize bL p.next=p2 at *
 have tU:=lq p2 0 [91] (hx st h) ef aU
 have abT:¬ (p2.code=0/\is p2 0 [91]=true)->True:=fun _=>trivial
 cases hc:(p2.code==0) with
 | false =>
  have dY:¬ p2.code=0:=by simpa using hc
  rw [L (fun hh=>dY hh.1)] at hw;cases hw
  have zq:(st.globals.map mA).length+1=(st.globals++[s]).length:=by simp
  have qL:st.globals.map mA++[[GV.v (sv s)]]=(st.globals++[s]).map mA:=by simp [mA]
  have hlen:(st.globals.map mA).length+1<=1099511627776:=by simp;omega
  refine ah func168 ntmps168 ?_;refine V [0] hi ?_;refine V [0] eK ?_;refine GL.pI 2 rfl rfl rfl rfl rfl rfl rfl rfl bj sL ?_;intro a c;refine dk ?_;rw [zq,qL];refine D ?_;refine cD ?_;refine D ?_;refine V [0] (fM p2 [59] (hx { st with globals:=st.globals++[s] } { h with aG:=a,cG:=c }) ef) ?_;refine dz ?_;exact ⟨rfl,{ h with aG:=a,cG:=c },rfl⟩
 | true =>
  have dY:p2.code=0:=by simpa using hc
  cases eA:is p2 0 [91] with
  | false =>
   rw [eA] at tU;rw [L (fun hh=>by have:=hh.2;rw [eA] at this;cases this)] at hw;cases hw
   have zq:(st.globals.map mA).length+1=(st.globals++[s]).length:=by simp
   have qL:st.globals.map mA++[[GV.v (sv s)]]=(st.globals++[s]).map mA:=by simp [mA]
   have hlen:(st.globals.map mA).length+1<=1099511627776:=by simp;omega
   refine ah func168 ntmps168 ?_;refine V [0] hi ?_;refine V [0] eK ?_;refine V [0] tU ?_;refine GL.pI 2 rfl rfl rfl rfl rfl rfl rfl rfl bj sL ?_;intro a c;refine dk ?_;rw [zq,qL];refine D ?_;refine cD ?_;refine D ?_;refine V [0] (fM p2 [59] (hx { st with globals:=st.globals++[s] } { h with aG:=a,cG:=c }) ef) ?_;refine dz ?_;exact ⟨rfl,{ h with aG:=a,cG:=c },rfl⟩
  | true =>
   rw [eA] at tU;rw [ab ⟨dY,eA⟩] at hw;have yL:=(kU eA).ok ef;have ace:=ef.1;have XA:=ef.2;have acf:=yL.1;have acg:=yL.2
   have ht:=tf p2.next 0 (hx st h) yL aU
   have Hy:=AH p2.next (hx st h) yL
   have G3:(tok p2.next 0).kind=1->p2.next.next.ok:=fun hk=>(ep (tH (p:=p2.next) (k:=0) (by rw [hk];decide))).ok yL
   generalize tok p2.next 0=tk at *
   by_cases hk:tk.kind=1
   ·rw [ab hk] at hw;cases hw
    have mW:(tk.kind != 1)=false:=by simpa using hk
    have Kn:=G3 hk;have ach:=Kn.1
    have Hw:=fM p2.next.next [93] (hx st h) Kn
    have hp5:=(cR Kn [93]).ok Kn
    generalize want p2.next.next [93]=p5 at *
    have zq:(st.arrays.map sF).length+1=(st.arrays++[(⟨s,tk.n⟩:Ar)]).length:=by simp
    have qL:st.arrays.map sF++[[GV.v (sv s),.v (ii tk.n)]]=(st.arrays++[(⟨s,tk.n⟩:Ar)]).map sF:=by simp [sF]
    have hlen:(st.arrays.map sF).length+1<=1099511627776:=by simp;omega
    refine ah func168 ntmps168 ?_;refine V [0] hi ?_;refine V [0] eK ?_;refine V [0] tU ?_;refine V [0] ht ?_;refine cD ?_;refine D ?_;refine V [0] Hw ?_;refine aL (aD 0 10 (.a 10 (.a 11 (aD 12 3 (.a 15 .nil))))) ?_;refine ao ?_;refine dC ?_;refine ao ?_;refine OA rfl rfl (GL.qA 3 rfl rfl rfl bj rfl rfl (by refine ⟨?_,?_⟩;(· show _+1<=_;omega);(· show (_+1) * _<=_;omega)) ?_);intro a c;refine dd ?_;generalize hX:chunk 1 2 _=X
    obtain rfl:X=[sF ⟨s,tk.n⟩]:=by rw [<-hX];rfl
    clear hX
    try (generalize hX:chunk 1 2 _=X;obtain rfl:X=[sF ⟨s,tk.n⟩]:=by rw [<-hX];rfl)
    rw [show (st.arrays.map sF).length+[sF ⟨s,tk.n⟩].length=(st.arrays++[(⟨s,tk.n⟩:Ar)]).length by simp,<-ye sF st.arrays ⟨s,tk.n⟩];refine bx ?_;refine cD ?_;refine D ?_;refine V [0] (fM p5 [59] (hx { st with arrays:=st.arrays++[⟨s,tk.n⟩] } { h with aA:=a,cA:=c }) hp5) ?_;refine dz ?_;exact ⟨rfl,{ h with aA:=a,cA:=c },rfl⟩
   ·rw [L hk] at hw;cases hw
    have mW:(tk.kind != 1)=true:=by simpa using hk
    refine ah func168 ntmps168 ?_;refine V [0] hi ?_;refine V [0] eK ?_;refine V [0] tU ?_;refine V [0] ht ?_;refine V [0] Hy ?_;refine dz ?_;exact ⟨rfl,h,rfl⟩
theorem M3 {f:Nat} (p:RS) (st:PS) (h:HW) (q:RS) (eX:PS) (hp:p.ok) (hs:is p 0 mK=false) (kj:is p 0 od=false) (hw:iW f p st=some (q,eX)) :
  GC prog 168 [.loc 0 0] (we p st h) (fun g aR=>g=.tup []/\∃ h',aR=we q eX h'):=by
 unfold iW at hw;rw [L (by rw [hs];decide),L (by rw [kj];decide)] at hw;cases hw;have hi:=lq p 0 mK (hx st h) hp aU;have tU:=lq p 0 od (hx st h) hp aU;have Hy:=AH p (hx st h) hp;rw [hs] at hi;rw [kj] at tU;refine ah func168 ntmps168 ?_;refine V [0] hi ?_;refine V [0] tU ?_;refine V [0] Hy ?_;refine dz ?_;exact ⟨rfl,h,rfl⟩
abbrev Za (p:RS) (st:PS) (h:HW) (s:ae) (acc:List ae) (a:Option Addr) (c:Nat):List Ob:=we p st h++[.box 58 [.v (sv s),.v (.slice a acc.length c),.v (ii 0)],.vech 9 1 (acc.map mA) (.slice a acc.length c)]
theorem M4 {f:Nat} (p:RS) (st:PS) (h:HW) (q:RS) (eX:PS) (n:Nat) (hp:p.ok) (hn:st.le n) (hb:n+f+4<=1099511627776) (wZ:is p 0 mK=false) (hs:is p 0 od=true) (hw:iW f p st=some (q,eX)) :
  GC prog 168 [.loc 0 0] (we p st h) (fun g aR=>g=.tup []/\∃ h',aR=we q eX h'):=by
 obtain ⟨Fh,cZ⟩:=id hp;obtain ⟨Hk,b9,Xr,hn4⟩:=hn;unfold iW at hw;rw [L (by rw [wZ];decide),ab hs] at hw;have Xi:=lq p 0 mK (hx st h) hp aU;rw [wZ] at Xi;have hi:=lq p 0 od (hx st h) hp aU;rw [hs] at hi;have l8:=(kU hs).ok hp
 have eK:=sA p.next (hx st h) l8
 have ef:=(jt l8).ok l8;generalize (tok p.next 0).s=s at *
 generalize bL p.next=p2 at *
 have qj:=fM p2 [40] (hx st h) ef;have yL:=(cR ef [40]).ok ef;generalize want p2 [40]=p3 at *
 cases hm:qk f [] p3 with
 | none=>rw [hm] at hw;cases hw
 | some r =>
 obtain ⟨l,q1⟩:=r;rw [hm] at hw;simp only at hw;refine ah func168 ntmps168 ?_;refine V [0] Xi ?_;refine V [0] hi ?_;refine V [0] eK ?_;refine cD ?_;refine D ?_;refine V [0] qj ?_;refine GW.wk (Wk.kE 9 1) ?_;refine GW.loop (fun z:Nat × List ae × RS=>z.1) (fun z fr Γ=>∃ a c,fr=[.loc 0 0,U,U,U,.loc 5 0,U,U,U,U,U,U,U,U,U,U,U,U,U,U,U,U,U,U,U,U,U,U,U,U,U,U,U,U,U,U,U,U,U,U,U,U,U,U,U,U,U,U,U,U,U,U,U,U,U,U,U,U,U,U,U,U,U,U,U,U,U,U,U,U,U,U,U,U,U,U,U,U,U,U,U,U,U,U,U,U,U,U,U,U,U,U,U,U,U,U,U,U,U,U,U,U,U,U,U,U,U,U,U,U,U,U,U,U,U,U,U,U,U,U,U,U,U,U,U,U,U,U,U,U,U,U,U,U,U,U,U,U,U,U,U,U,U,U,U,U,U,U,U,U,U,U,U,U]/\Γ=Za z.2.2 st h s z.2.1 a c/\z.2.2.ok/\z.2.1.length+z.1<=f/\qk z.1 z.2.1 z.2.2=some (l,q1)) (f,[],p3) ?_ ?_
 ·exact ⟨_,_,Wk.aH ar,none,0,rfl,rfl,yL,by simp,hm⟩
 clear hm yL qj ef eK hi Xi l8;rintro ⟨g,acc,p⟩ _ _ ⟨a,c,rfl,rfl,hp,Bb,hm⟩;simp only at hp Bb hm
 cases g with
 | zero=>cases hm
 | succ g =>
 rw [qk] at hm;have hi:=lq p 0 [41] (hx st h) hp aU
 by_cases hgo:p.code=0/\is p 0 [41]=false
 ·obtain ⟨hc,tY⟩:=id hgo;rw [ab hgo] at hm;rw [tY] at hi
  have dY:(p.code==0)=true:=by simpa using hc
  by_cases h0:acc.length=0
  ·obtain rfl:=iC h0
   have hd:decide ((0:Int) < (([]:List ae).length:Int))=false:=by decide
   rw [ab (by rfl)] at hm;have eK:=sA p (hx st h) hp;have ef:=(jt hp).ok hp;generalize (tok p 0).s=s2 at *;refine D ?_;refine V [0] hi ?_;refine aL (aD 0 3 (.a 3 (.a 4 (.a 5 (.q 6 (.a 7 .nil)))))) ?_;refine ao ?_;refine aI [0] eK ?_;refine dC ?_;refine ao ?_;refine OA rfl rfl (GL.qA 6 (news:=[mA s2]) rfl rfl rfl bj rfl rfl (by refine ⟨?_,?_⟩;(· show _+1<=_;omega);(· show (_+1) * _<=_;omega)) ?_);intro a2 c2;refine dd ?_;refine bx ?_;exact ⟨(g,[s2],bL p),⟨_,_,Wk.aH ar,a2,c2,rfl,rfl,ef,by simp at Bb |-;omega,hm⟩,by simp⟩
  ·have hd:decide ((0:Int) < (acc.length:Int))=true:=by simpa using by omega
   rw [L h0] at hm;have hwc:=fM p [44] (hx st h) hp;have nE:=(cR hp [44]).ok hp;generalize want p [44]=pw at *;have eK:=sA pw (hx st h) nE;have ef:=(jt nE).ok nE;generalize (tok pw 0).s=s2 at *
   have hlen:(acc.map mA).length<=f:=by simp;omega
   refine D ?_;refine V [0] hi ?_;refine cD ?_;refine D ?_;refine V [0] hwc ?_;refine aL (aD 0 3 (.a 3 (.a 4 (.a 5 (.q 6 (.a 7 .nil)))))) ?_;refine ao ?_;refine aI [0] eK ?_;refine dC ?_;refine ao ?_;refine OA rfl rfl (GL.qA 6 (news:=[mA s2]) rfl rfl rfl bj rfl rfl (by refine ⟨?_,?_⟩;(· show _+1<=_;omega);(· show (_+1) * _<=_;omega)) ?_);intro a2 c2;refine dd ?_
   try rw [show (acc.map mA).length+1=(acc++[s2]).length by simp]
   rw [show (acc.map mA).length+[mA s2].length=(acc++[s2]).length by simp,<-ye mA acc s2];refine bx ?_;exact ⟨(g,acc++[s2],bL pw),⟨_,_,Wk.aH ar,a2,c2,rfl,rfl,ef,by simp;omega,hm⟩,by simp⟩
 ·rw [L hgo] at hm
  obtain ⟨rfl,rfl⟩:acc=l/\want p [41]=q1:=by simpa using hm
  clear hm;have TS:=fM p [41] (hx st h) hp;have hpq:=(cR hp [41]).ok hp
  have gM:(lI st.trees).length+1<=1099511627776:=by rw [oo];omega
  have kW:(st.fns.map rJ).length+1<=1099511627776:=by simp;omega
  by_cases hc:p.code=0
  ·have dY:(p.code==0)=true:=by simpa using hc
   have tY:is p 0 [41]=true:=by
    cases h3:is p 0 [41] with
    | true=>rfl
    | false=>exact absurd ⟨hc,h3⟩ hgo
   rw [tY] at hi
   by_cases hqc:(want p [41]).code=0
   ·have Rw:((want p [41]).code==0)=true:=by simpa using hqc
    rw [ab hqc] at hw
    cases fT:iS f (.block 1) (want p [41]) with
    | none=>rw [fT] at hw;cases hw
    | some r =>
    obtain ⟨t,qq⟩:=r;rw [fT] at hw
    obtain ⟨rfl,rfl⟩:qq=q/\_=eX:=by simpa using hw
    have ey:=(iss f).block 1 _ t qq (hx st h) hpq G fT;clear fT hqc;generalize want p [41]=pq at *;refine D ?_;refine V [0] hi ?_;refine ky ?_;refine D ?_;refine cD ?_;refine D ?_;refine V [0] TS ?_;refine aL (aD 0 6 (.a 6 (.a 7 (.a 8 (.q 9 (.q 10 (.a 11 .nil))))))) ?_;refine ao ?_;refine aI [0] ey ?_;refine dC ?_;refine ao ?_;refine OA rfl rfl (GL.qA 1 (news:=[[qT t]]) rfl rfl rfl bj rfl rfl (by refine ⟨?_,?_⟩;(· show _+1<=_;omega);(· show (_+1) * _<=_;omega)) ?_);intro a3 c3;refine dd ?_
    try rw [show (lI st.trees).length+1=(st.trees++[t]).length by simp [oo]]
    rw [show (lI st.trees).length+[[qT t]].length=(st.trees++[t]).length by simp [oo],<-xk st.trees t];refine bx ?_;apply GW.wk
    ·apply Wk.yv (i:=5) (o:=1) (j:=6)
     ·rfl
     ·rfl
     ·rfl
     ·rfl
    simp only [oset,bp];refine aL (aD 0 7 (.a 7 (.a 8 (aD 9 3 (.a 12 .nil))))) ?_;refine ao ?_;refine dC ?_;refine ao ?_;refine OA rfl rfl (GL.qA 4 (news:=[rJ (s,acc)]) rfl rfl rfl bj rfl rfl (by refine ⟨?_,?_⟩;(· show _+1<=_;omega);(· show (_+1) * _<=_;omega)) ?_);intro a4 c4;refine dd ?_
    try rw [show (st.fns.map rJ).length+1=(st.fns++[(s,acc)]).length by simp]
    rw [show (st.fns.map rJ).length+[rJ (s,acc)].length=(st.fns++[(s,acc)]).length by simp,<-ye rJ st.fns (s,acc)];refine bx ?_;refine dz ?_;exact ⟨rfl,{ h with aT:=a3,cT:=c3,aF:=a4,cF:=c4 },rfl⟩
   ·have Rw:((want p [41]).code==0)=false:=by simpa using hqc
    rw [L hqc] at hw;cases hw;clear hqc;generalize want p [41]=pq at *;refine D ?_;refine V [0] hi ?_;refine ky ?_;refine D ?_;refine cD ?_;refine D ?_;refine V [0] TS ?_;refine dz ?_;exact ⟨rfl,h,rfl⟩
  ·have dY:(p.code==0)=false:=by simpa using hc
   by_cases hqc:(want p [41]).code=0
   ·have Rw:((want p [41]).code==0)=true:=by simpa using hqc
    rw [ab hqc] at hw
    cases fT:iS f (.block 1) (want p [41]) with
    | none=>rw [fT] at hw;cases hw
    | some r =>
    obtain ⟨t,qq⟩:=r;rw [fT] at hw
    obtain ⟨rfl,rfl⟩:qq=q/\_=eX:=by simpa using hw
    have ey:=(iss f).block 1 _ t qq (hx st h) hpq G fT;clear fT hqc;generalize want p [41]=pq at *;refine cw ?_;refine D ?_;refine cD ?_;refine D ?_;refine V [0] TS ?_;refine aL (aD 0 6 (.a 6 (.a 7 (.a 8 (.q 9 (.q 10 (.a 11 .nil))))))) ?_;refine ao ?_;refine aI [0] ey ?_;refine dC ?_;refine ao ?_;refine OA rfl rfl (GL.qA 1 (news:=[[qT t]]) rfl rfl rfl bj rfl rfl (by refine ⟨?_,?_⟩;(· show _+1<=_;omega);(· show (_+1) * _<=_;omega)) ?_);intro a3 c3;refine dd ?_
    try rw [show (lI st.trees).length+1=(st.trees++[t]).length by simp [oo]]
    rw [show (lI st.trees).length+[[qT t]].length=(st.trees++[t]).length by simp [oo],<-xk st.trees t];refine bx ?_;apply GW.wk
    ·apply Wk.yv (i:=5) (o:=1) (j:=6)
     ·rfl
     ·rfl
     ·rfl
     ·rfl
    simp only [oset,bp];refine aL (aD 0 7 (.a 7 (.a 8 (aD 9 3 (.a 12 .nil))))) ?_;refine ao ?_;refine dC ?_;refine ao ?_;refine OA rfl rfl (GL.qA 4 (news:=[rJ (s,acc)]) rfl rfl rfl bj rfl rfl (by refine ⟨?_,?_⟩;(· show _+1<=_;omega);(· show (_+1) * _<=_;omega)) ?_);intro a4 c4;refine dd ?_
    try rw [show (st.fns.map rJ).length+1=(st.fns++[(s,acc)]).length by simp]
    rw [show (st.fns.map rJ).length+[rJ (s,acc)].length=(st.fns++[(s,acc)]).length by simp,<-ye rJ st.fns (s,acc)];refine bx ?_;refine dz ?_;exact ⟨rfl,{ h with aT:=a3,cT:=c3,aF:=a4,cF:=c4 },rfl⟩
   ·have Rw:((want p [41]).code==0)=false:=by simpa using hqc
    rw [L hqc] at hw;cases hw;clear hqc;generalize want p [41]=pq at *;refine cw ?_;refine D ?_;refine cD ?_;refine D ?_;refine V [0] TS ?_;refine dz ?_;exact ⟨rfl,h,rfl⟩
end Go.Xg
namespace Go.Xg
open GV (U)
open Go.RowKit Go.Xw Go.Proofs Tryz
open Go.Xp (Tok Nd T bH one levels ja eP fi en dV mK od pY Ar aB aK bN eN)
open Go.Sp Go.Im
attribute [local irreducible] GW GL GO YG GC GA be bg
theorem VW {f:Nat} (p:RS) (st:PS) (h:HW) (q:RS) (eX:PS) (n:Nat) (hp:p.ok) (hn:st.le n) (hb:n+f+4<=1099511627776) (hw:iW f p st=some (q,eX)) :
  GC prog 168 [.loc 0 0] (we p st h) (fun g aR=>g=.tup []/\∃ h',aR=we q eX h'):=by
 cases F:is p 0 mK with
 | true=>exact QF p st h q eX n hp hn G F hw
 | false =>
  cases I:is p 0 od with
  | true=>exact M4 p st h q eX n hp hn hb F I hw
  | false=>exact M3 p st h q eX hp F I hw
def oK (fns:List (ae × List ae)) (trees:List T) (k:Nat):List (List GV):=fns.mapIdx fun i x=>[.v (sv x.1),strs x.2,.v (ii (if i < k then ((aB (trees.take i):Nat):Int) else 0))]
theorem Ig:∀ (rows:List (List GV)) (i j o:Nat) (g:GV),(dp rows i o g)[j]?=if j=i then (rows[j]?).map (fun r=>bp r o g) else rows[j]?
 | [],i,j,o,g=>by simp [dp]
 | r::rs,0,0,o,g=>by simp [dp]
 | r::rs,0,j+1,o,g=>by simp [dp]
 | r::rs,i+1,0,o,g=>by simp [dp]
 | r::rs,i+1,j+1,o,g=>by
  rw [dp,List.getElem?_cons_succ,Ig rs i j o g];simp
theorem Vr (fns:List (ae × List ae)) (trees:List T):fns.map rJ=oK fns trees 0:=by
 apply List.ext_getElem?;intro i;rw [oK,getElem?_mapIdx,aP]
 cases fns[i]? <;> simp [rJ]
theorem P3 (fns:List (ae × List ae)) (trees:List T) (k:Nat):dp (oK fns trees k) k 2 (.v (ii ((aB (trees.take k):Nat):Int)))=oK fns trees (k+1):=by
 apply List.ext_getElem?;intro i;rw [Ig,oK,oK,getElem?_mapIdx,getElem?_mapIdx]
 by_cases h:i=k
 ·subst h;rw [ab rfl]
  cases fns[i]? with
  | none=>rfl
  | some x=>simp [bp]
 ·rw [L h]
  cases fns[i]? with
  | none=>rfl
  | some x =>
   have:(i < k)=(i < k+1):=by simp;omega
   simp [this]
theorem Sn {fns:List (ae × List ae)} {trees:List T} {k:Nat} (j:Nat) (h:k < fns.length):∃ x,(oK fns trees j)[k]?=some [.v (sv x.1),strs x.2,.v (ii (if k < j then ((aB (trees.take k):Nat):Int) else 0))]/\fns[k]?=some x:=by
 refine ⟨fns[k],?_,by simp [h]⟩;rw [oK,getElem?_mapIdx];simp [h]
def KX (q:RS) (st:PS):GV :=
 if q.code=0 then
  if aB st.trees > 800 then .tup [.agg [.sl 1 [],.sl 2 [],.sl 3 [],.sl 5 []],.v (ii 10),.v (ii 0)]
  else .tup [.agg [.sl 1 (st.globals.map mA),.sl 2 (st.arrays.map sF),.sl 3 (oK st.fns st.trees st.trees.length),.sl 5 ((bN 0 st.trees).map tR)],.v (ii 0),.v (ii 0)]
 else .tup [.agg [.sl 1 [],.sl 2 [],.sl 3 [],.sl 5 []],.v (ii q.code),.v (ii q.at_)]
theorem Ju {acB f:Nat} (ts:List Tok) (e:Int) (q:RS) (st:PS) (hl:ts.length<=1099511627776) (hb:acB+f+4<=1099511627776) (hz:q.code=0->aB st.trees<=1099511627776) (h:oH acB f ⟨ts,0,e,0,0⟩ .empty=some (q,st)) :
  GF prog 117 [jP ts,.v (ii e)] [] (KX q st) []:=by
 unfold KX;refine ah func117 ntmps117 ?_;refine GW.wk (Wk.kE 131 1) ?_;refine GW.wk (Wk.kE 9 1) ?_;refine GW.wk (Wk.kE 56 2) ?_;refine GW.wk (Wk.kE 58 3) ?_;refine GW.loop (fun z:Nat × RS × PS=>z.1) (fun z fr Γ=>∃ h n,fr=[jP ts,.v (ii e),U,U,.loc 0 0,.v (ii 0),.v (ii 0),.loc 1 0,U,U,U,U,U,U,U,U,U,U,U,U,U,U,U,U,U,U,U,U,U,U,U,U,U,U,U,U,U,U,U,U,U,U,U,U,U,U,U,U,U,U,U,U,U,U,U,U,U,U,U,U,U,U,U,U,U,U,U,U,U,U,U,U,U,U,U,U,U,U,U]/\Γ=.box 33 [.v (.slice none 0 0),.v (.slice none 0 0),.v (.slice none 0 0),.v (.slice none 0 0)]::we z.2.1 z.2.2 h/\z.2.1.l=ts/\z.2.1.ok/\z.2.2.le n/\n+z.1<=acB/\oH z.1 f z.2.1 z.2.2=some (q,st)) (acB,⟨ts,0,e,0,0⟩,.empty) ?_ ?_
 ·exact ⟨_,_,Wk.aH ar,⟨none,0,none,0,none,0,none,0⟩,0,rfl,rfl,rfl,⟨aM _,hl⟩,⟨aE _,aE _,aE _,rfl⟩,by simp,h⟩
 clear h;rintro ⟨g,p,s⟩ _ _ ⟨hd,n,rfl,rfl,cZ,hp,hn,Bb,h⟩;simp only at cZ hp hn Bb h
 cases g with
 | zero=>cases h
 | succ g =>
 rw [oH] at h
 by_cases hgo:p.code=0/\p.i < p.l.length
 ·rw [ab hgo] at h
  have dY:(p.code==0)=true:=by simpa using hgo.1
  have ak:decide ((p.i:Int) < ((ts.map dQ).length:Int))=true:=by
   have:=hgo.2;rw [cZ] at this;simpa using this
  cases hw:iW f p s with
  | none=>rw [hw] at h;cases h
  | some r =>
   obtain ⟨p2,s2⟩:=r;rw [hw] at h;simp only at h;have mc:=Zy hp hw;refine D ?_;refine cM [1,2,3,4,5] (VW p s hd p2 s2 n hp hn G hw) ?_;rintro _ _ ⟨rfl,dZ,rfl⟩;refine dH ?_;refine D ?_;exact ⟨(g,p2,s2),⟨_,_,Wk.aH ar,dZ,n+1,rfl,rfl,by rw [mc.1,cZ],mc.ok hp,Zw hw hn,by show n+1+g<=acB;omega,h⟩,by simp⟩
 ·rw [L hgo] at h
  obtain ⟨rfl,rfl⟩:p=q/\s=st:=by simpa using h
  clear h
  have hex:∀ b1 b2:Bool,(p.code==0)=b1->decide ((p.i:Int) < ((ts.map dQ).length:Int))=b2->b1=true->b2=false:=fun b1 b2 F I h3=>by
   subst h3
   cases b2 with
   | false=>rfl
   | true=>exact absurd ⟨by simpa using F,by rw [cZ];simpa using I⟩ hgo
  by_cases hc:p.code=0
  ·rw [ab hc];have hz:=hz hc
   have dY:(p.code==0)=true:=by simpa using hc
   have ll:(p.code != 0)=false:=by simpa using hc
   have ak:=hex _ _ dY rfl rfl;have ov:=hn.trees;have Xo:=hn.fns;have tX:=oo s.trees;have rp:=Go.Xp.c6 s.trees;refine cw ?_;refine D ?_;refine GW.wk (by apply Wk.ui (t:=52) (i:=2) <;> rfl) ?_;simp only [oset,bp];refine D ?_;refine GW.wk (Wk.kE 62 5) ?_;rw [Vr s.fns s.trees]
   refine GW.range s.trees.length (fun k fr Γ=>∃ aN cN,fr=[U,U,U,U,.loc 0 0,.v (ii 0),.v (ii 0),U,.loc 6 0,U,U,U,U,U,U,U,U,U,U,U,U,U,U,U,U,U,U,U,U,U,U,U,U,U,U,U,U,U,U,U,U,U,U,U,U,U,U,U,U,U,U,U,.sl 1 (lI s.trees),.v (ii (s.trees.length:Int)),.v (ii (k:Nat)),U,U,U,U,U,U,U,U,U,U,U,U,U,U,U,U,U,U,U,U,U,U,U,U]/\Γ=[.box 33 [.v (.slice none 0 0),.v (.slice none 0 0),.v (.slice none 0 0),.v (.slice none 0 0)],cm p (hx s hd),.vec 131 1 (lI s.trees).length (lI s.trees),.vech 9 1 (s.globals.map mA) (.slice hd.aG s.globals.length hd.cG),.vech 56 2 (s.arrays.map sF) (.slice hd.aA s.arrays.length hd.cA),.vech 58 3 (oK s.fns s.trees k) (.slice hd.aF s.fns.length hd.cF),
    .box 33 [.v (.slice hd.aG s.globals.length hd.cG),.v (.slice hd.aA s.arrays.length hd.cA),.v (.slice hd.aF s.fns.length hd.cF),.v (.slice aN (aB (s.trees.take k)) cN)],.vech 62 5 ((bN 0 (s.trees.take k)).map tR) (.slice aN (aB (s.trees.take k)) cN)]) ?_ G ?_ ?_ ?_
   ·exact ⟨_,_,Wk.aH ar,none,0,rfl,rfl⟩
   ·rintro k _ _ ⟨aN,cN,rfl,rfl⟩;exact dK
   ·rintro k _ _ ak ⟨aN,cN,rfl,rfl⟩;obtain ⟨t,ht⟩:∃ t,s.trees[k]?=some t:=⟨s.trees[k],by simp [ak]⟩;have hr:=Dt ht;have dr:=Go.Xp.td ht;have hle:=Go.Xp.s9 s.trees (k+1)
    have jU:s.trees.take (k+1)=s.trees.take k++[t]:=by rw [cq,ht];rfl
    obtain ⟨x,w5,Kr⟩:=Sn (fns:=s.fns) (trees:=s.trees) (k:=k) k G;rw [L (Nat.lt_irrefl k)] at w5;have oY:k < (oK s.fns s.trees k).length:=(bo w5).1
    have hX:((bN 0 (s.trees.take k)).map tR).length=aB (s.trees.take k):=by rw [bP,Go.Xp.ki]
    have gC:=N6 (aK t) t (aE _) (aB (s.trees.take k)) _ aN cN hX G;rw [<-P3 s.fns s.trees k,jU,Go.Xp.wM,Go.Xp.oq];simp only [bN,aB,cY,Nat.add_zero,cI,gU];generalize (bN 0 (s.trees.take k)).map tR=X at *;generalize aB (s.trees.take k)=z at *;generalize oK s.fns s.trees k=R at *;refine D ?_;refine kP ?_;refine D ?_;refine cM [7] gC ?_;rintro _ _ ⟨a5,c5,rfl,rfl⟩;refine dH ?_;refine D ?_;exact ⟨rfl,rfl,_,_,Wk.aH ar,a5,c5,rfl,rfl⟩
   ·rintro _ _ ⟨aN,cN,rfl,rfl⟩;rw [bW]
    have hX:((bN 0 s.trees).map tR).length=aB s.trees:=by rw [bP,Go.Xp.ki]
    by_cases h8:aB s.trees > 800
    ·rw [ab h8]
     have h8':decide ((800:Int) < (aB s.trees:Int))=true:=by simpa using by omega
     generalize aB s.trees=z at *;refine D ?_;refine DG ?_;exact ⟨_,gS,rfl,rfl⟩
    ·rw [L h8]
     have h8':decide ((800:Int) < (((bN 0 s.trees).map tR).length:Int))=false:=by rw [hX];simpa using by omega
     refine ba ?_;refine GW.wk (by apply Wk.yv (i:=6) (o:=0) (j:=3) <;> rfl) ?_;simp only [oset,bp];refine GW.wk (by apply Wk.yv (i:=6) (o:=1) (j:=4) <;> rfl) ?_;simp only [oset,bp];refine GW.wk (by apply Wk.yv (i:=6) (o:=2) (j:=5) <;> rfl) ?_;simp only [oset,bp];refine GW.wk (by apply Wk.yv (i:=6) (o:=3) (j:=7) <;> rfl) ?_;simp only [oset,bp];refine D ?_;refine nG ?_;exact ⟨rfl,rfl⟩
  ·rw [L hc]
   have dY:(p.code==0)=false:=by simpa using hc
   have ll:(p.code != 0)=true:=by simpa using hc
   refine cw ?_;refine D ?_;refine aL (aD 0 9 (.a 9 (.q 10 (.q 11 .nil)))) ?_;refine bx ?_;refine DG ?_;exact ⟨_,gS,rfl,rfl⟩
end Go.Xg
namespace Go.Xg
open GV (U)
open Go.RowKit Go.Xw Go.Proofs Tryz
open Go.Xp (Tok Nd T)
open Go.Sp (small eV dR bS gm fB eE)
open Go.Im (nk j0 di iX ig lk lu rL lQ oy ry)
attribute [local irreducible] GW GL GO YG GC GA be bg
theorem Af (c:UInt8):GF prog 181 [EP c] [] (.v (.bool (eV c))) []:=by
 unfold eV;refine cL func181 ntmps181 ?_
 cases h:decide ((48:Int)<=(c.toNat:Int))
 all_goals
  exact ay
theorem yd (c:UInt8):GF prog 143 [EP c] [] (.v (.bool (small c))) []:=by
 unfold small;refine cL func143 ntmps143 ?_
 cases h:decide ((97:Int)<=(c.toNat:Int))
 all_goals
  exact ay
theorem Dj (c:UInt8):GF prog 145 [EP c] [] (.v (.bool (dR c))) []:=by
 unfold dR;have hs:=yd c;have hd:=Af c;generalize small c=b1 at *;generalize eV c=b2 at *;refine ah func145 ntmps145 ?_;refine fR [] hs ?_
 cases b1 with
 | true =>
  exact ay
 | false =>
  cases F:decide ((65:Int)<=(c.toNat:Int)) with
  | true =>
   cases I:decide ((c.toNat:Int)<=90) with
   | true =>
    exact ay
   | false =>
    refine D ?_;refine fR [] hd ?_
    cases b2 with
    | true =>
     exact ay
    | false =>
     exact ay
  | false =>
   refine D ?_;refine fR [] hd ?_
   cases b2 with
   | true =>
    exact ay
   | false =>
    exact ay
theorem MI (test:FuncId) [hf:aJ prog test] (p:UInt8->Bool) (ht:∀ c,GF prog test [EP c] [] (.v (.bool (p c))) []) (s:ae) (a:Nat) (hs:s.length<=1099511627776) (ha:a<=s.length) :
  GF prog 144 [.v (sv s),.v (ii (a:Nat)),.v (.func (.func test) #[] #[])] [] (.v (ii (Go.Sp.run s p (s.length+1) a:Nat))) []:=by
 generalize hR:Go.Sp.run s p (s.length+1) a=R;refine ah func144 ntmps144 ?_;refine GW.loop (fun x:Nat × Nat=>x.1) (fun x fr Γ=>fr=[.v (sv s),.v (ii (x.2:Nat)),.v (.func (.func test) #[] #[]),U,U,U,U,U,U,U,U,U,U,U,U,U,U,U,U,U,U]/\Γ=[]/\x.2<=s.length/\s.length < x.1+x.2/\Go.Sp.run s p x.1 x.2=R) (s.length+1,a) ?_ ?_
 ·exact ⟨_,_,Wk.aH ar,rfl,rfl,ha,by simp only;omega,hR⟩
 ·rintro ⟨f,a⟩ _ _ ⟨rfl,rfl,ha,TF,h⟩;simp only at ha TF h
  cases f with
  | zero=>omega
  | succ f =>
  rw [Go.Sp.run] at h
  cases hc:s[a]? with
  | none =>
   rw [hc] at h;simp only at h;subst h;have mV:s.length<=a:=qG hc
   have hd:decide ((a:Int) < (s.length:Int))=false:=by simpa using mV
   refine cw ?_;exact ay
  | some c =>
   rw [hc] at h;simp only at h;have ak:a < s.length:=(bo hc).1
   have hd:decide ((a:Int) < (s.length:Int))=true:=by simpa using ak
   have n5:=ht c
   cases hdc:p c with
   | false =>
    rw [hdc] at n5;rw [L (by rw [hdc];simp)] at h;subst h;refine D ?_;refine jR [] n5 ?_;refine cw ?_;exact ay
   | true =>
    rw [hdc] at n5;rw [ab hdc] at h;refine D ?_;refine jR [] n5 ?_;refine D ?_;exact ⟨(f,a+1),⟨_,_,Wk.aH ar,rfl,rfl,ak,by simp only;omega,h⟩,by simp⟩
theorem Qc:Go.Lib.asciiSpaceTab=xt:=by decide
theorem N1:Go.Lib.fields [105,110,116,32,118,97,114,32,102,117,110,99,32,105,102,32,101,108,115,101,32,119,104,105,108,101,32,114,101,116,117,114,110,32,124,124,32,38,38,32,61,61,32,33,61,32,60,61,32,62,61,32,60,60,32,62,62,32,40,32,41,32,123,32,125,32,91,32,93,32,44,32,59,32,61,32,60,32,62,32,43,32,45,32,42,32,47,32,37,32,38,32,124,32,94,32,33,32,126]=nk:=by decide +kernel
theorem p7.Cd {P:Program} {f:FuncId} {vs:List Value} {w:World} {R:Value->World->Prop} (h:Calls P f vs.toArray w fun e w'=>∃ v,e=.returned v/\R v w'):p7 P f vs w R:=h
theorem QQ:GF prog 223 [.v (sv [105,110,116,32,118,97,114,32,102,117,110,99,32,105,102,32,101,108,115,101,32,119,104,105,108,101,32,114,101,116,117,114,110,32,124,124,32,38,38,32,61,61,32,33,61,32,60,61,32,62,61,32,60,60,32,62,62,32,40,32,41,32,123,32,125,32,91,32,93,32,44,32,59,32,61,32,60,32,62,32,43,32,45,32,42,32,47,32,37,32,38,32,124,32,94,32,33,32,126])] [] (strs nk) []:=by
 have:=GF.abG (P:=prog) (f:=223) (vs:=[sv [105,110,116,32,118,97,114,32,102,117,110,99,32,105,102,32,101,108,115,101,32,119,104,105,108,101,32,114,101,116,117,114,110,32,124,124,32,38,38,32,61,61,32,33,61,32,60,61,32,62,61,32,60,60,32,62,62,32,40,32,41,32,123,32,125,32,91,32,93,32,44,32,59,32,61,32,60,32,62,32,43,32,45,32,42,32,47,32,37,32,38,32,124,32,94,32,33,32,126]]) (us:=nk.map sv) (E:=9) fun K β w ht hf=>?_
 ·rw [List.map_map] at this;exact this
 ·obtain ⟨E,z,mI⟩:=uE.all ht hf ht.spc (zs:=xt.map fun z=>Value.int .u8 z) aU (fun m o x hx=>by
   rw [aP] at hx;unfold yT;rw [L aU,L aU,ab rfl]
   cases hs:xt[o]? with
   | none=>rw [hs] at hx;cases hx
   | some y=>rw [hs] at hx;cases hx;rfl)
  have BU:Go.Lib.TabIs prog w "strings.asciiSpace" .u8 Go.Lib.asciiSpaceTab:=by
   unfold Go.Lib.TabIs World.var?;rw [show prog.globalNamed "strings.asciiSpace" = some 1 by kernel_rfl,Qc];simp only [Option.bind_some,mI]
  have h:=strings_Fields_laid ⟨[105,110,116,32,118,97,114,32,102,117,110,99,32,105,102,32,101,108,115,101,32,119,104,105,108,101,32,114,101,116,117,114,110,32,124,124,32,38,38,32,61,61,32,33,61,32,60,61,32,62,61,32,60,60,32,62,62,32,40,32,41,32,123,32,125,32,91,32,93,32,44,32,59,32,61,32,60,32,62,32,43,32,45,32,42,32,47,32,37,32,38,32,124,32,94,32,33,32,126].toArray⟩ w aU (fun j b hb=>by
   have:∀ b∈([105,110,116,32,118,97,114,32,102,117,110,99,32,105,102,32,101,108,115,101,32,119,104,105,108,101,32,114,101,116,117,114,110,32,124,124,32,38,38,32,61,61,32,33,61,32,60,61,32,62,61,32,60,60,32,62,62,32,40,32,41,32,123,32,125,32,91,32,93,32,44,32,59,32,61,32,60,32,62,32,43,32,45,32,42,32,47,32,37,32,38,32,124,32,94,32,33,32,126]:List UInt8),b.toNat < 128:=by decide
   exact this b (bA hb)) BU
  refine p7.Cd (Calls.mono h ?_);rintro e w' ⟨F,I⟩;rw [show ((⟨[105,110,116,32,118,97,114,32,102,117,110,99,32,105,102,32,101,108,115,101,32,119,104,105,108,101,32,114,101,116,117,114,110,32,124,124,32,38,38,32,61,61,32,33,61,32,60,61,32,62,61,32,60,60,32,62,62,32,40,32,41,32,123,32,125,32,91,32,93,32,44,32,59,32,61,32,60,32,62,32,43,32,45,32,42,32,47,32,37,32,38,32,124,32,94,32,33,32,126].toArray⟩:ByteArray).data.toList)=[105,110,116,32,118,97,114,32,102,117,110,99,32,105,102,32,101,108,115,101,32,119,104,105,108,101,32,114,101,116,117,114,110,32,124,124,32,38,38,32,61,61,32,33,61,32,60,61,32,62,61,32,60,60,32,62,62,32,40,32,41,32,123,32,125,32,91,32,93,32,44,32,59,32,61,32,60,32,62,32,43,32,45,32,42,32,47,32,37,32,38,32,124,32,94,32,33,32,126] from rfl,N1] at F I;exact ⟨_,F,by rw [bP],I⟩
theorem Vw:GF prog 182 [] [] (strs nk) []:=by
 have h:=QQ;generalize nk=l at *;refine ah func182 ntmps182 ?_;refine V [] h ?_;exact aj
theorem xZ (s:ae):GF prog 146 [.v (sv s)] [] (.v (.bool (j0 s))) []:=by
 have h:=Vw;have hc:=iz nk s aU;unfold j0;generalize nk=l at *;refine ah func146 ntmps146 ?_;refine V [] h ?_;refine V [] hc ?_;exact aj
theorem Sz (s:ae) (a:Nat) (c:UInt8) (hs:s.length<=1099511627776) (hc:s[a]?=some c):GF prog 204 [.v (sv s),.v (ii (a:Nat))] [] (.v (sv (ig s a))) []:=by
 have ak:a < s.length:=(bo hc).1;have kl:=yd c;refine ah func204 ntmps204 ?_;refine GW.loop (fun x:Nat=>x) (fun x fr Γ=>fr=[.v (sv s),.v (ii (a:Nat)),U,U,U,.v (ii (x:Nat)),U,U,U,U,U,U,U,U,U,U,U,U,U,U,U,U,U,U,U,U,U,U,U,U,U,U,U,U,U,U,U,U]/\Γ=[]/\x<=2/\∀ j,x < j->j<=2->iX s a j=false) 2 ?_ ?_
 ·exact ⟨_,_,Wk.aH ar,rfl,rfl,aE _,fun j F I=>by omega⟩
 ·rintro x _ _ ⟨rfl,rfl,hx,da⟩
  have sY:∀ k,x=k+1->iX s a x=false->∀ j,k < j->j<=2->iX s a j=false:=fun k hk ht j F I=>by
   by_cases hj:j=x
   ·rw [hj];exact ht
   ·exact da j G I
  have Qs:∀ k,iX s a k=(decide (a+k<=s.length)&&!(small c)&&j0 (di s a (a+k))):=fun k=>by unfold iX;rw [hc]
  match x,hx,da,sY with
  | 0,_,da,_ =>
   have e:ig s a=[]:=by unfold ig;rw [da 2 G G,da 1 G G];rfl
   rw [e];refine cw ?_;exact ay
  | 1,_,da,sY =>
   have hle:decide (((a+1:Nat):Int)<=(s.length:Int))=true:=by simpa using by omega
   have hb:a<=a+1/\a+1<=s.length:=by omega
   have ht:=Qs 1;rw [show decide (a+1<=s.length)=true from decide_eq_true G] at ht
   cases hsc:small c with
   | true =>
    rw [hsc] at kl ht;refine D ?_;refine V [] kl ?_;exact ⟨0,⟨_,_,Wk.aH ar,rfl,rfl,by omega,sY 0 rfl ht⟩,by omega⟩
   | false =>
    rw [hsc] at kl ht;have dE:=xZ (di s a (a+1))
    cases hg:j0 (di s a (a+1)) with
    | false =>
     rw [hg] at dE ht;refine D ?_;refine V [] kl ?_;refine V [] dE ?_;exact ⟨0,⟨_,_,Wk.aH ar,rfl,rfl,by omega,sY 0 rfl ht⟩,by omega⟩
    | true =>
     rw [hg] at dE ht
     have e:ig s a=di s a (a+1):=by unfold ig;rw [da 2 G G,ht];rfl
     rw [e];refine D ?_;refine V [] kl ?_;refine V [] dE ?_;exact aj
  | 2,_,da,sY =>
   have ht:=Qs 2
   by_cases kW:a+2<=s.length
   ·have hle:decide (((a+2:Nat):Int)<=(s.length:Int))=true:=by simpa using by omega
    have hb:a<=a+2/\a+2<=s.length:=by omega
    rw [show decide (a+2<=s.length)=true by simpa using kW] at ht
    cases hsc:small c with
    | true =>
     rw [hsc] at kl ht;refine D ?_;refine V [] kl ?_;exact ⟨1,⟨_,_,Wk.aH ar,rfl,rfl,by omega,sY 1 rfl ht⟩,by omega⟩
    | false =>
     rw [hsc] at kl ht;have dE:=xZ (di s a (a+2))
     cases hg:j0 (di s a (a+2)) with
     | false =>
      rw [hg] at dE ht;refine D ?_;refine V [] kl ?_;refine V [] dE ?_;exact ⟨1,⟨_,_,Wk.aH ar,rfl,rfl,by omega,sY 1 rfl ht⟩,by omega⟩
     | true =>
      rw [hg] at dE ht
      have e:ig s a=di s a (a+2):=by unfold ig;rw [ht];rfl
      rw [e];refine D ?_;refine V [] kl ?_;refine V [] dE ?_;exact aj
   ·have hle:decide (((a+2:Nat):Int)<=(s.length:Int))=false:=by simpa using by omega
    rw [show decide (a+2<=s.length)=false by simpa using kW] at ht;refine D ?_;exact ⟨1,⟨_,_,Wk.aH ar,rfl,rfl,by omega,sY 1 rfl ht⟩,by omega⟩
  | n+3,hx,_,_=>omega
def My (n:Int) (e:Nat) (a:Nat):GV:=if n > 2147483647 then .tup [.agg (dQ rL),.v (ii (a:Nat)),.v (ii 3)] else .tup [.agg (dQ ⟨1,n,[],a⟩),.v (ii (e:Nat)),.v (ii 0)]
theorem Qq (s:ae) (a:Nat) (c:UInt8) (hs:s.length<=1099511627776) (hc:s[a]?=some c) (hd:eV c=true) :
  GF prog 167 [.v (sv s),.v (ii (a:Nat))] [] (My (lu (di s a (lk s a)) 0) (lk s a) a) []:=by
 have ak:a < s.length:=(bo hc).1;have n5:=Af c;rw [hd] at n5;have ow:=MI 181 eV Af s a hs G;obtain ⟨e1,e2,e3⟩:=Go.Sp.ni s eV (s.length+1) a G G;have aY:=Go.Im.Ew s eV (s.length+1) a G;unfold lk;generalize Go.Sp.run s eV (s.length+1) a=e at *;clear e1;generalize hR:lu (di s a e) 0=R;refine ah func167 ntmps167 ?_;refine V [] n5 ?_;refine V [] ow ?_;refine GW.loop (fun x:Nat × Int=>e - x.1) (fun x fr Γ=>fr=[.v (sv s),.v (ii (a:Nat)),U,U,.loc 0 0,.v (ii 0),.v (ii 0),U,.v (ii (e:Nat)),.v (ii x.2),.v (ii (x.1:Nat)),U,U,U,U,U,U,U,U,U,U,U,U,U,U,U,U,U,U,U,U,U,U,U,U,U,U,U,U,U,U,U,U,U,U,U,U,U,U,U,U,U,U,U,U,U,U,U,U,U,U,U,U,U,U,U,U,U,U,U,U,U,U,U,U,U,U,U,U,U,U]/\Γ=[.box 183 (dQ rL)]/\a<=x.1/\x.1<=e/\lu (di s x.1 e) x.2=R/\0<=x.2/\x.2<=21474836480) (a,0) ?_ ?_
 ·exact ⟨_,_,Wk.aH ar,rfl,rfl,aE _,e2,hR,by simp,by simp⟩
 ·rintro ⟨i,n⟩ _ _ ⟨rfl,rfl,hi,hie,h,Ba,Hk⟩;simp only at hi hie h Ba Hk
  have fin:R=n->True:=fun _=>trivial
  by_cases ov:i < e
  ·have OL:decide ((i:Int) < (e:Int))=true:=by simpa using ov
   by_cases hn:n<=2147483647
   ·have CV:decide (n<=2147483647)=true:=by simpa using hn
    have vD:i < s.length:=by omega
    obtain ⟨d,dZ⟩:∃ d,s[i]?=some d:=⟨s[i],by simp [vD]⟩
    have ic:eV d=true:=by
     have:d∈di s a e:=by
      unfold di;rw [List.mem_iff_getElem?];exact ⟨i - a,by rw [List.getElem?_drop,List.getElem?_take,show a+(i - a)=i by omega,ab ov];exact dZ⟩
     exact aY d this
    have zA:(48:Int)<=(d.toNat:Int)/\(d.toNat:Int)<=57:=by
     simp only [eV,aC,decide_eq_true_eq] at ic;exact ic
    rw [Go.Im.qI dZ ov e3,lu,ab hn] at h;refine D ?_;exact ⟨(i+1,10 * n+((d.toNat:Int) - 48)),⟨_,_,Wk.aH ar,rfl,rfl,by simp only;omega,ov,h,by simp only;omega,by simp only;omega⟩,by simp only;omega⟩
   ·have CV:decide (n<=2147483647)=false:=by simpa using hn
    have gh:R=n:=by
     rw [<-h]
     cases hw:di s i e with
     | nil=>rw [lu]
     | cons d r=>rw [lu,L hn]
    rw [gh];clear h gh hR fin
    have b9:decide (2147483647 < n)=true:=by simpa using by omega
    unfold My;rw [ab G];refine cw ?_;refine D ?_;refine nG ?_;exact ⟨rfl,rfl⟩
  ·have OL:decide ((i:Int) < (e:Int))=false:=by simpa using by omega
   have gh:R=n:=by
    rw [<-h];have:di s i e=[]:=iC (by rw [Go.Im.mq e3];omega);rw [this,lu]
   rw [gh];clear h gh hR fin;unfold My
   by_cases hn:n > 2147483647
   ·have b9:decide (2147483647 < n)=true:=by simpa using hn
    rw [ab hn];refine cw ?_;refine D ?_;refine nG ?_;exact ⟨rfl,rfl⟩
   ·have b9:decide (2147483647 < n)=false:=by simpa using hn
    rw [L hn];refine cw ?_;refine D ?_;refine nG ?_;exact ⟨rfl,rfl⟩
theorem VV (s:ae) (a:Nat) (c:UInt8) (hs:s.length<=1099511627776) (hc:s[a]?=some c) :
  GF prog 167 [.v (sv s),.v (ii (a:Nat))] [] (.tup [.agg (dQ (lQ s a c).1),.v (ii ((lQ s a c).2.1:Nat)),.v (ii (lQ s a c).2.2)]) []:=by
 have ak:a < s.length:=(bo hc).1;have n5:=Af c;have kl:=yd c
 by_cases hd:eV c=true
 ·have h:=Qq s a c hs hc hd;unfold My at h;unfold lQ;rw [ab hd];split at h
  ·rename_i hn;rw [ab hn];exact h
  ·rename_i hn;rw [L hn];exact h
 ·have OK:eV c=false:=by simpa using hd
  unfold lQ;rw [L hd];rw [OK] at n5
  by_cases hsc:small c=true
  ·rw [ab hsc];rw [hsc] at kl;have ow:=MI 145 dR Dj s a hs G;obtain ⟨e1,e2,e3⟩:=Go.Sp.ni s dR (s.length+1) a G G;have hw:gm s a=(s.take (fB s a)).drop a:=rfl;have dE:=xZ (gm s a);unfold fB at hw |-;rw [hw] at dE |-;generalize Go.Sp.run s dR (s.length+1) a=e at *;have hb:a<=e/\e<=s.length:=⟨e2,e3⟩
   cases hg:j0 ((s.take e).drop a) with
   | true =>
    rw [hg] at dE;refine ah func167 ntmps167 ?_;refine V [] n5 ?_;refine V [] kl ?_;refine V [] ow ?_;refine V [] dE ?_;refine nG ?_;exact ⟨rfl,rfl⟩
   | false =>
    rw [hg] at dE;refine ah func167 ntmps167 ?_;refine V [] n5 ?_;refine V [] kl ?_;refine V [] ow ?_;refine V [] dE ?_;refine nG ?_;exact ⟨rfl,rfl⟩
  ·have abo:small c=false:=by simpa using hsc
   rw [L hsc];rw [abo] at kl;have hsa:=Sz s a c hs hc
   have hlen:(ig s a).length<=2:=by
    have:(ig s a=di s a (a+2)\/ig s a=di s a (a+1))\/ig s a=[]:=by
     unfold ig;split
     ·exact .inl (.inl rfl)
     ·split
      ·exact .inl (.inr rfl)
      ·exact .inr rfl
    rcases this with (h | h) | h <;> rw [h]
    ·unfold di;rw [jv,cX];omega
    ·unfold di;rw [jv,cX];omega
    ·simp
   generalize ig s a=x at *
   by_cases hx:x=[]
   ·have Kq:(x==[])=true:=by simpa using hx
    rw [ab hx];refine ah func167 ntmps167 ?_;refine V [] n5 ?_;refine V [] kl ?_;refine V [] hsa ?_;refine nG ?_;exact ⟨rfl,rfl⟩
   ·have Kq:(x==[])=false:=by simpa using hx
    rw [L hx];refine ah func167 ntmps167 ?_;refine V [] n5 ?_;refine V [] kl ?_;refine V [] hsa ?_;refine nG ?_;exact ⟨rfl,rfl⟩
def D6 (x t:ae):Bool:=decide (t.length<=x.length)&&(x.take t.length==t)
theorem LD (x t:ae) (hx:x.length<=1099511627776) (ht:t.length<=1099511627776):GF prog 202 [.v (sv x),.v (sv t)] [] (.v (.bool (D6 x t))) []:=by
 unfold D6
 by_cases h:t.length<=x.length
 ·have F:decide ((t.length:Int)<=(x.length:Int))=true:=by simpa using h
  rw [decide_eq_true h];refine ah func202 ntmps202 ?_;exact aj
 ·have F:decide ((t.length:Int)<=(x.length:Int))=false:=by simpa using by omega
  rw [decide_eq_false h];refine ah func202 ntmps202 ?_;exact aj
theorem I3 (x t:ae) (hx:x.length<=1099511627776) (ht:t.length<=1099511627776):GF prog 165 [.v (sv x),.v (sv t)] [] (.v (.bool (D6 x t))) []:=by
 have h:=LD x t hx ht;generalize D6 x t=b at *;refine ah func165 ntmps165 ?_;refine V [] h ?_;exact aj
theorem Jd {s t:ae} {a:Nat} (ha:a<=s.length):D6 (s.drop a) t=bS s a t:=by
 unfold D6 bS;rw [jv,List.drop_take,show a+t.length - a=t.length by omega]
 congr 1
 rw [Bool.eq_iff_iff];simp;omega
theorem I4 (c:UInt8):GF prog 164 [.v (sv [32,9,10,13]),EP c] [] (.v (ii (Go.Lib.indexByte [32,9,10,13] c))) []:=by
 refine GF.X9 (vs:=[sv [32,9,10,13],.int .u8 (c.toNat:Int)]) fun K β w ht hf=>?_
 refine p7.Cd (Calls.mono (strings_IndexByte ⟨[32,9,10,13].toArray⟩ (c.toNat:Int) w) ?_);rintro e w' ⟨F,I⟩;refine ⟨_,F,?_,by rw [I];exact Ext.refl w⟩;simp
theorem QS (x:ae) (hx:x.length<=4294967280):GF prog 166 [.v (sv x),.v (sv [42,47])] [] (.v (ii (Go.Lib.index x [42,47]))) []:=by
 refine GF.X9 (vs:=[sv x,sv [42,47]]) fun K β w ht hf=>?_
 obtain ⟨m,hm⟩:=ht.maxLen hf;refine p7.Cd (Calls.mono (strings_Index ⟨x.toArray⟩ ⟨[42,47].toArray⟩ m w (by show (x.toArray).size < _;simp;omega) hm) ?_);rintro e w' ⟨F,I⟩;refine ⟨_,F,?_,by rw [I];exact Ext.refl w⟩;simp
theorem Q0 (c:UInt8):decide ((0:Int)<=Go.Lib.indexByte [32,9,10,13] c)=eE c:=by
 have hb:eE c=((32:UInt8)==c || (9:UInt8)==c || (10:UInt8)==c || (13:UInt8)==c):=by
  have e:∀ k:UInt8,((c.toNat:Int)==(k.toNat:Int))=(k==c):=fun k=>by
   rw [Bool.eq_iff_iff];simp only [beq_iff_eq]
   exact ⟨fun h=>by
    have:c.toNat=k.toNat:=by omega
    exact (UInt8.toNat_inj.1 this).symm,fun h=>by rw [h]⟩
  have e1:=e 32;have e2:=e 9;have e3:=e 10;have e4:=e 13;unfold eE;rw [<-e1,<-e2,<-e3,<-e4];rfl
 rw [hb];unfold Go.Lib.indexByte Go.Lib.indexByte Go.Lib.indexByte Go.Lib.indexByte Go.Lib.indexByte
 cases (32:UInt8)==c <;> cases (9:UInt8)==c <;> cases (10:UInt8)==c <;> cases (13:UInt8)==c <;> decide
theorem Pm (l:ae):Go.Lib.index l [42,47]=(match ry l with | none => -1 | some n=>(n:Int)):=by
 induction l with
 | nil=>rfl
 | cons b l ih =>
  rw [Go.Lib.index,ry];split
  ·rfl
  ·rw [ih]
   cases ry l with
   | none=>rfl
   | some n =>
    simp only;rw [L (by simp <;> omega)];simp
theorem R7 (s:ae) (f:Nat) (ts:List Tok) (c z:Int) (hs:s.length<=4294967280) (h:oy s f 0 []=some (ts,c,z)) :
  GF prog 116 [.v (sv s)] [] (.tup [jP ts,.v (ii c),.v (ii z)]) []:=by
 refine ah func116 ntmps116 ?_;refine GW.wk (Wk.Ek (t:=5) (a:=none) (c:=0) 183 4 rfl) ?_;refine GW.loop (fun x:Nat × Nat × List Tok=>x.1) (fun x fr Γ=>∃ n rows,fr=[.v (sv s),U,.v (.slice none 0 0),.v (ii 0),.v (ii 0),.vec 0 n,.v (ii (x.2.1:Nat)),U,U,U,U,U,U,U,U,U,U,U,U,U,U,U,U,U,U,U,U,U,U,U,U,U,U,U,U,U,U,U,U,U,U,U,U,U,U,U,U,U,U,U,U,U,U,U,U]/\Γ=[.vec 183 4 0 rows]/\rows.length=n/\rows=x.2.2.map dQ/\x.2.1<=s.length/\n<=x.2.1/\oy s x.1 x.2.1 x.2.2=some (ts,c,z)) (f,0,[]) ?_ ?_
 ·exact ⟨_,_,Wk.aH ar,0,[],rfl,rfl,rfl,rfl,aM _,aE _,h⟩
 ·clear h;rintro ⟨f,a,acc⟩ _ _ ⟨n,rows,rfl,rfl,hn,bK,ha,Km,h⟩;simp only at bK ha Km h
  cases f with
  | zero=>cases h
  | succ f =>
  rw [oy] at h
  cases hc:s[a]? with
  | none =>
   rw [hc] at h;cases h;have mV:s.length<=a:=qG hc
   have hd:decide ((a:Int) < (s.length:Int))=false:=by simpa using mV
   refine cw ?_;refine GW.wk (Wk.jD (t:=5) rfl rfl rfl hn) ?_;refine D ?_;refine Ls ?_;exact ⟨by rw [bK];rfl,rfl⟩
  | some ch =>
   rw [hc] at h;simp only at h;have ak:a < s.length:=(bo hc).1
   have hd:decide ((a:Int) < (s.length:Int))=true:=by simpa using ak
   have OT:=I4 ch;have pP:=Q0 ch
   cases hb:eE ch with
   | true =>
    rw [ab hb] at h;rw [hb] at pP;generalize Go.Lib.indexByte [32,9,10,13] ch=ib at *;refine D ?_;refine V [] OT ?_;refine ky ?_;exact ⟨(f,a+1,acc),⟨_,_,Wk.aH ar,n,rows,rfl,rfl,hn,bK,ak,by simp only;omega,h⟩,by simp⟩
   | false =>
    rw [L (by rw [hb];decide)] at h;rw [hb] at pP;generalize Go.Lib.indexByte [32,9,10,13] ch=ib at *;have oX:=I3 (s.drop a) [47,42] (by rw [jv];omega) aU;rw [Jd ha] at oX
    cases qe:bS s a [47,42] with
    | true =>
     rw [ab qe] at h;rw [qe] at oX;have oF:=Go.Sp.kQ qe;simp only [length_cons,length_nil] at oF;have zt:=QS (s.drop (a+2)) (by rw [jv];omega);rw [Pm] at zt
     have Fb:a+2<=s.length:=by omega
     cases hi:ry (s.drop (a+2)) with
     | none =>
      rw [hi] at zt h;cases h;refine D ?_;refine V [] OT ?_;refine V [] oX ?_;refine V [] zt ?_;refine sN ?_;exact ⟨_,gS,rfl,rfl⟩
     | some e =>
      rw [hi] at zt h;have eB:=Go.Im.D9 hi;rw [jv] at eB
      have Xc:decide (((e:Nat):Int) < 0)=false:=by simp
      refine D ?_;refine V [] OT ?_;refine V [] oX ?_;refine V [] zt ?_;refine ky ?_;exact ⟨(f,a+(e+4),acc),⟨_,_,Wk.aH ar,n,rows,rfl,rfl,hn,bK,by simp only;omega,by simp only;omega,h⟩,by simp⟩
    | false =>
     rw [L (by rw [qe];decide)] at h;rw [qe] at oX;have jU:=VV s a ch G hc
     have fx:=fun h0=>Go.Im.Lp hc h0
     generalize lQ s a ch=R at *;obtain ⟨t,e,code⟩:=R;simp only at jU h fx
     by_cases h0:code=0
     ·rw [L (by simpa using h0)] at h
      have uN:(code != 0)=false:=by simpa using h0
      obtain ⟨_,_,k3,k4⟩:=fx h0;refine D ?_;refine V [] OT ?_;refine V [] oX ?_;refine V [] jU ?_;refine fk ?_;refine D ?_;exact ⟨(f,e,acc++[t]),⟨_,_,(Wk.cut (n:=1) (fq rfl) rfl).trans (Wk.aH ar),_,_,rfl,rfl,by simp [hn],by rw [gU,bK];rfl,k4,by simp only;omega,h⟩,by simp⟩
     ·rw [ab h0] at h
      have uN:(code != 0)=true:=by simpa using h0
      cases h;refine D ?_;refine V [] OT ?_;refine V [] oX ?_;refine V [] jU ?_;refine sN ?_;exact ⟨_,gS,rfl,rfl⟩
end Go.Xg
