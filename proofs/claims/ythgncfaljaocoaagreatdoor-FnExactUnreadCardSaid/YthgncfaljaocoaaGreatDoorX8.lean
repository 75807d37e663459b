/- Part 8 of proofs that are told in their last texts. -/
import Derived.Test.YthgncfaljaocoaaGreatDoorX4
import Derived.ProofKit
import Derived.Below
import Derived.ChangeSame
import Derived.Test.YthgncfaljaocoaaGreatDoorX6
import Derived.Lib.Builder
import Derived.Lib.UnsafeStr
import Derived.Shelf.Strings.Builder1
import Derived.Shelf.Strings.Builder2
import Derived.Shelf.Small.Strs
import Derived.Shelf.Strings.BuilderF
import Derived.Shelf.Strconv.Itoa0
import Derived.Shelf.Strconv.Itoa1
import Derived.Shelf.LaysM
import Derived.Shelf.Strconv.Itoa2
import Derived.Shelf.Strconv.Itoa3
import Derived.Shelf.Strings.Search1
import Derived.Shelf.Strings.Search2
import Derived.Shelf.Strings.Search3
import Derived.Shelf.Strings.Shaped
import Derived.Shelf.Strings.Prefix
import Derived.Shelf.Strings.Fields
import Derived.Shelf.Strings.SplitShaped
import Derived.Shelf.Unicode.Latin
import Derived.Shelf.Unicode.Is16White
import Derived.Shelf.Unicode.IsSpaceAny
import Derived.Shelf.Unicode.Is16Any
import Derived.Shelf.Unicode.Is32Any
import Derived.Shelf.Unicode.ExclAny
import Derived.Test.YthgncfaljaocoaaGreatDoorProg
import Derived.Test.YthgncfaljaocoaaGreatDoorX5
import Derived.Test.YthgncfaljaocoaaGreatDoorX2
import Derived.Test.YthgncfaljaocoaaGreatDoorX7
import Derived.Test.YthgncfaljaocoaaGreatDoorX1
import Derived.Laws.StructEq
open List (all_eq_true append_assoc getD_cons_succ getD_cons_zero getElem?_map getElem_mem length_append length_cons length_map length_nil map_append map_nil mem_map mem_of_getElem? mem_singleton sum_cons take_add_one take_length)
set_option linter.unusedVariables false
set_option linter.unusedSimpArgs false
set_option maxRecDepth 100000
namespace Go.Xw
open Go.RowKit Go.WideShapes Go.ChangeShapes
section
variable {H:Type} {enc:TypeId × Value->H} {P:Program}
theorem CE {f:Func} {s:ChangeSpec} {apart fresh handsOn again:Bool} {W W':World} {args:Array Value} {v:Value} {ds gs:List (DataW H)} {before pa pv:List MemPlace}
  (hW:DataW.Whole enc P f.params.toList s.vars apart W args.toList ds gs before)
  (RU:∀ (b:Nat) (sp:Nat->Bool) (hd:Bool),DataW.TrodAll enc P W' b sp hd f.resultTypes.toList (v.resultList f.resultTypes.size) (s.fn H (ds++gs)).results [])
  (zy:∀ sp:Nat->Bool,(∀ p∈before,sp p.block=true)->DataW.TrodAll enc P W' 0 sp true f.params.toList args.toList (s.fn H (ds++gs)).args pa)
  (OL:∀ sp:Nat->Bool,(∀ p∈before,sp p.block=true)->DataW.TrodVars enc P W' sp s.vars (s.fn H (ds++gs)).vars pv)
  (BS:before=pa++pv) (hb:Below W.heap.size W W')
  (eQ:∀ (j:Nat) (t:TypeId) (r:Value),f.resultTypes[j]?=some t->(v.resultList f.resultTypes.size)[j]?=some r->Value.okWide P W' .any 0 t r) :
  s.post enc P f apart fresh handsOn again W args v W':=by
 have aq:∀ p∈before,p.block < W.heap.size:=fun p hp=>hW.lt p hp
 have hold:∀ p∈before,(fun b=>decide (b < W.heap.size)) p.block=true:=fun p hp=>by simpa using aq p hp
 refine ⟨ds,gs,before,[],pa,pv,hW,RU _ _ _,zy _ hold,OL _ hold,World.keptBut_mono (fun p hp=>⟨hp,?_⟩) (hb.frame (·∈before)),fun _=>?_⟩
 ·rw [BS,List.mem_append] at hp;exact Or.inr hp
 ·obtain ⟨_,_,_,_,_,hz,hn⟩:=hW;refine ⟨eQ,_,_,([]++pa)++pv,⟨[]++pa,pv,trodAll_append (zy _ (fun _ _=>rfl)) (RU _ _ _),OL _ (fun _ _=>rfl),rfl,?_,?_⟩,?_⟩
  ·intro b off hp
   have gz:MemPlace.cell b off∈before:=by rw [BS];simpa using hp
   rw [hb.frozen (aq _ gz)];exact hz b off gz
  ·intro ha;have:=hn ha;rw [BS] at this;simpa using this
  ·intro p hp _;rw [BS];simpa using hp
end
end Go.Xw
namespace Go.Xg
open Go.RowKit Go.Xw
class Ao (P:Program) (t:TypeId):Prop where
 und:∃ e j,P.underlying t=some (.pointer e)/\P.info? e=some j
theorem Ao.mk' {P:Program} {t e:TypeId} (h:P.underlying t=some (.pointer e)) (k:(P.info? e).isSome=true):Ao P t:=⟨e,(P.info? e).get k,h,by simp⟩
section
variable {P:Program} {m:Nat} {Q:dQ} {fr:List GV} {Γ:List Ob} {ops:Array Oper} {rest:List Oper} {d:Option Tmp} {op:Op} {ty:TypeId} {pos:String} {af:Array Edge}
theorem YG.oJ {x y:Operand} {t t':TypeId} [hT:Ao P t] {i o:Nat} (hx:aP fr x=.loc i o) (hy:aP fr y=.v (.pointer none)):YG P (.binOp .eql t x y t') fr Γ (.v (.bool false)):=fun B K β w l hI hF=>by
 have h:=hF.ev x;rw [hx] at h;generalize hv:ev l x=v at h
 cases h with
 | loc _ _ b hb =>
  obtain ⟨e,j,h1,h2⟩:=hT.und
  have hp:P.pointee t=e:=by simp [Program.pointee,h1]
  have:=run_eql_pointer_nil (P:=P) w t (some ⟨b,o,none⟩) (by rw [hp];exact h1);refine ⟨_,fun d ty pos af=>?_,.v _⟩;simp [execOp,eqGuard,hv,hF.gy hy,this]
theorem YG.oY {x y:Operand} {t t':TypeId} [hT:Ao P t] {i o:Nat} (hx:aP fr x=.loc i o) (hy:aP fr y=.loc i o):YG P (.binOp .neq t x y t') fr Γ (.v (.bool false)):=fun B K β w l hI hF=>by
 have h:=hF.ev x;rw [hx] at h;have h':=hF.ev y;rw [hy] at h';generalize hv:ev l x=v at h;generalize zM:ev l y=v' at h'
 cases h with
 | loc _ _ b hb =>
  cases h' with
  | loc _ _ b' ba =>
   rw [hb] at ba;cases ba;obtain ⟨e,j,h1,h2⟩:=hT.und;have:=Lib.run_neq_ptr_same (P:=P) w ⟨b,o,none⟩ h1 h2;refine ⟨_,fun d ty pos af=>?_,.v _⟩;simp [execOp,eqGuard,hv,zM,this]
theorem Inv.again {B:Bs} {K:Fz} {β:Bt} {Γ:List Ob} {w w':World} {i E k:Nat} {rows:List (List GV)} {x:Value} {xs:List Value} (h:Inv B K β Γ w) (hi:Γ[i]?=some (.vech E k rows x)) (ho:gw w' 0 E k x rows.length xs) (hr:aV K β xs rows.flatten)
  (hx:Ext (fun b=>x.ownBlock=some b) w w'):Inv B K β Γ w':=by
 obtain ⟨Zw,h1,h2,h3,h4,h5⟩:=h.ob i _ hi
 have ed:∀ b,x.ownBlock=some b->(β i).blk=some b:=fun b hb=>by rw [h1];exact hb
 refine ⟨h.ext.step hx (fun j hj=>(h.own i j (ed j hj)).symm),h.kle,h.ble,h.loc,h.fz.ext hx (fun b o g hg he=>by rw [h5 b he o] at hg;cases hg),fun j y hj=>?_,h.out,h.dis,h.own,h.kn,h.tab.step hx (fun j hj=>⟨i,ed j hj⟩) (cm.refl K) (fun i b2 h=>.inl ⟨i,h⟩)⟩
 by_cases hji:j=i
 ·subst hji;rw [hi] at hj;cases hj;exact ⟨xs,h1,ho,hr,h4,h5⟩
 ·exact (h.ob j y hj).ext hx (fun b hb he=>hji (h.dis j i b hb (ed b he))) (cm.refl K) (dc.refl β) rfl (fun _ _ _ h=>h)
theorem GL.Ti {s x:Operand} {t u e:Nat} [hT:Bq P t e] [hU:oF P u] (i:Nat) {n:Nat} {dt:Tmp} {v:Value} {rows:List (List GV)} {str:ae} (hx:aP fr x=.v (sv str)) (hs:aP fr s=.v v) (br:Γ[i]?=some (.vech e 1 rows v)) (hn:rows.length=n) (bO:str.isEmpty=false)
  (hb:n+str.length<=140737488355328)
  (h:∀ a c,GL P m ops Q rest (bh fr (some dt) (.v (.slice a (n+str.length) c))) (oset Γ i (.vech e 1 (rows++bW str) (.slice a (n+str.length) c)))) :
  GL P m ops Q (⟨some dt,.call ⟨.builtin .append,#[s,x],#[t,u]⟩,ty,pos,af,none⟩::rest) fr Γ:=fun B K β w l hm hI hF=>by
 subst hn
 have bO:str≠[]:=by intro h0;rw [h0] at bO;cases bO
 obtain ⟨xs,o1,o2,o3,o4,o5⟩:=hI.ob i _ br;have pC:ev l s=v:=hF.gy hs
 have iP:(bW str).flatten=str.map fun c=>GV.v (.int .u8 (c.toNat:Int)):=by
  unfold bW;clear hx bO hb h;generalize str=s
  induction s with
  | nil=>rfl
  | cons c r ih=>simp only [List.map_cons,List.flatten_cons,ih];rfl
 have hlen:(bW str).length=str.length:=by simp [bW]
 refine WL.At (base:=0) (v:=v) (n:=rows.length) (xs:=xs) (str:=str) pC o2 (hF.gy hx) hb (Nat.zero_le _) ?_;intro v' w' how fZ sW uv
 obtain ⟨K',hK,pE,be⟩:=(hI.Aj br).grow (fz:=0) (od br) o1 ⟨o2,o3⟩ (news:=bW str) (ns:=jL str) (by rw [hlen];exact how) fZ sW (by rw [iP];exact (by
   have:(str.map fun c=>GV.v (.int .u8 (c.toNat:Int)))=kg (jL str):=by simp [kg,jL]
   rw [this];exact aV.self)) (fun r hr=>by
   simp only [bW,mem_map] at hr;obtain ⟨c,_,rfl⟩:=hr
   exact ⟨rfl,fun g hg=>by rw [mem_singleton] at hg;subst hg;rfl⟩) (by intro h0;exact bO (List.map_eq_nil_iff.1 h0)) (fun b ba o v ho hv=>by omega)
 rw [<-aX,mH] at be;obtain ⟨a,c,oO,oo⟩:=be.yI (od br);rw [mH] at oo;obtain ⟨a',c',rfl⟩:=how.shape;rw [bm] at oO;simp only [length_append,hlen] at oO oo pE;cases oO;exact h _ _ B K' _ w' _ hm oo ((hF.mono hK pE).put (some dt) (.v _))
theorem GL.Th {s x:Operand} {t u e:Nat} [hT:Bq P t e] [hU:oF P u] (i:Nat) {rows:List (List GV)} {v:Value} (hx:aP fr x=.v (sv [])) (hs:aP fr s=.v v) (br:Γ[i]?=some (.vech e 1 rows v)) (hb:rows.length<=140737488355328)
  (h:GL P m ops Q rest (bh fr d (.v v)) Γ):GL P m ops Q (⟨d,.call ⟨.builtin .append,#[s,x],#[t,u]⟩,ty,pos,af,none⟩::rest) fr Γ:=fun B K β w l hm hI hF=>by
 obtain ⟨xs,o1,o2,o3,o4,o5⟩:=hI.ob i _ br;have pC:=hF.gy hs;have qC:=hF.gy hx;obtain ⟨hu,i',hi,hz,b8,wx⟩:=hT.is;have ux:(⟨([]:ae).toArray⟩:ByteArray).size=0:=rfl;obtain ⟨v',w',hr,h2,h3,h4⟩:=Lib.run_append_own_string (P:=P) w 0 t u ty e i' hu hU.und hi hz b8 wx v rows.length xs o2 ⟨([]:ae).toArray⟩ (by rw [ux];simp only [maxLen];omega) (by rw [ux];omega) (Nat.zero_le _)
 have zM:v'=v:=by
  rcases o2.2 with ⟨rfl,h6⟩ | ⟨g,cap,cur,rfl,nM,hg,px,xZ,fq,zL⟩
  ·exact h4.2 ⟨rfl,rfl⟩
  ·have Rv:cur.size=cap:=by simpa using fq
   have dd:=Lib.run_append_room_string (P:=P) w t u ty e i' hu hU.und hi b8 g rows.length cap cur hg ⟨([]:ae).toArray⟩ (by rw [ux];omega) (by unfold maxLen at xZ;rw [ux];omega);rw [hr] at dd;cases dd;rfl
 subst zM;have l0:(Builtin.append_ #[t,u] ty #[v',sv []]).run P w=.ok v' w':=hr;have fq:Lib.strCells ⟨([]:ae).toArray⟩=[]:=rfl;rw [fq,List.append_nil] at h2;have fZ:Ext (fun b=>v'.ownBlock=some b) w w':=⟨h3.os,h3.tape,h3.output,h3.size,fun j hj hn=>h3.block j hj fun he=>hn he.symm⟩;have be:=hI.again br h2 o3 fZ;exact WL.val (v:=v') (w':=w') (by simp [execOp,resolve,invoke,builtin,pC,qC,l0]) (h B K β w' _ hm be (hF.put d (.v _)))
theorem YG.qI {x:Operand} {t:TypeId} (i:Nat) {E n c:Nat} {a:Option Addr} {rows:List (List GV)} (hx:aP fr x=.v (.slice a n c)) (br:Γ[i]?=some (.vech E 1 rows (.slice a n c))) (hn:rows.length=n) (hp:Nat.blt 0 n=true) :
  YG P (.call ⟨.builtin .unsafeSliceData,#[x],#[t]⟩) fr Γ (.vp i n 1 0 0):=fun B K β w l hI hF=>by
 subst hn
 have hp:0 < rows.length:=by simpa using hp
 obtain ⟨xs,h1,h2,h3,h4,h5⟩:=hI.ob i _ br;have hv:=hF.gy hx
 rcases h2.2 with ⟨h8,h9⟩ | ⟨g,cap,cur,h8,_,hg,px,_⟩
 ·omega
 ·cases h8
  have hr:=fun ts ty=>Lib.run_unsafeSliceData_row (P:=P) (w:=w) ts ty ⟨g,0,none⟩ rows.length c ah
  exact ⟨.pointer (some ⟨g,0,none⟩),fun d ty pos af=>by simp [execOp,resolve,invoke,builtin,hv,hr],.vp i _ 1 0 0 _ ⟨_,_,h1,Nat.le_refl _,fun _=>⟨g,rfl,by simp⟩⟩⟩
theorem GL.LV {x y:Operand} {pt it e:TypeId} (i:Nat) {str:ae} {rows:List (List GV)} {v:Value} (hp:P.underlying pt=some (.pointer e)) (hc:P.cellsOf e=1) (hx:aP fr x=.vp i str.length 1 0 0) (hy:aP fr y=.v (ii str.length)) (br:Γ[i]?=some (.vech e 1 rows v)) (jv:rows=bW str)
  (bO:str.isEmpty=false) (hb:str.length<=140737488355328)
  (h:GL P m ops Q rest (bh fr d (.v (sv str))) (oset Γ i .lost)):GL P m ops Q (⟨d,.call ⟨.builtin .unsafeString,#[x,y],#[pt,it]⟩,ty,pos,af,none⟩::rest) fr Γ:=fun B K β w l hm hI hF=>by
 have bO:str≠[]:=by intro h0;rw [h0] at bO;cases bO
 subst jv;obtain ⟨xs,o1,o2,o3,o4,o5⟩:=hI.ob i _ br
 have hlen:(bW str).length=str.length:=by simp [bW]
 have hr:=hF.ev x;rw [hx] at hr;have Sa:=hF.gy hy;generalize hv:ev l x=u at hr
 cases hr with
 | vp _ _ _ _ _ _ hh =>
  obtain ⟨h0,mm,e1,e2,e3⟩:=hh;rw [e1] at o1;cases o1;obtain ⟨b,Gk,rfl⟩:=e3 hlen
  rcases o2.2 with ⟨h8,h9⟩ | ⟨g,cap,cur,h8,_,hg,px,xZ,fq,zL⟩
  ·rw [hlen] at h9;exact absurd (List.eq_nil_of_length_eq_zero h9) bO
  ·subst h8;simp only [Value.ownBlock,Option.some.injEq] at Gk;subst Gk
   have qY:xs=jL str:=by
    have iP:(bW str).flatten=kg (jL str):=by
     have:(bW str).flatten=str.map fun c=>GV.v (.int .u8 (c.toNat:Int)):=by
      unfold bW;generalize str=s
      induction s with
      | nil=>rfl
      | cons c r ih=>simp only [List.map_cons,List.flatten_cons,ih];rfl
     rw [this];simp [kg,jL]
    rw [iP] at o3;apply List.ext_getElem
    ·have:=o3.1;simpa [kg] using this
    ·intro j h1 h2;have:=o3.2 j xs[j] (.v (jL str)[j]) (by simp [h1]) (by simp [kg,h2]);exact Rel.eT this
   have kE:∀ j y,str[j]?=some y->w.cell? ((⟨g,0,none⟩:Addr).add j)=some (.int .u8 y.toNat):=fun j y hy=>by
    have:=World.ownsRow.cells (g:=g) o2 rfl j (.int .u8 y.toNat) (by rw [qY];simp [jL,hy]);exact this
   have YC:(bW str).length<=cur.size:=by rw [fq];omega
   have l0:=Lib.run_unsafeString_row (P:=P) w pt it ty e hp hc g cur.size (by simp [World.shape?,hg]) str bO ah ah kE
   have fZ:Ext (·=g) w (w.freeze ⟨g,0,none⟩ str.length):=by
    have:=Lib.below_freeze (Below.refl 0 w) (p:=⟨g,0,none⟩) (Nat.zero_le g) str.length
    exact ⟨this.os,this.tape,this.output,this.size,fun k hk hn=>by
     unfold World.freeze;split
     ·rfl
     ·simp only [Array.getElem?_modify]
      rw [if_neg (fun he=>hn he.symm)]⟩
   have ed:(β i).blk=some g:=by rw [e1];rfl
   have be:Inv B K β (oset Γ i .lost) (w.freeze ⟨g,0,none⟩ str.length):=by
    refine ⟨hI.ext.step fZ (fun j hj=>by subst hj;exact (hI.own i _ ed).symm),hI.kle,hI.ble,hI.loc,hI.fz.ext fZ (fun b o g' kM he=>by subst he;rw [o5 _ rfl o] at kM;cases kM),fun j y hj=>?_,fun j hj=>hI.out j (by simpa [aX] using hj),hI.dis,hI.own,hI.kn,hI.tab.step fZ (fun j hj=>⟨i,by subst hj;exact ed⟩) (cm.refl K) (fun i b2 h=>.inl ⟨i,h⟩)⟩;rw [aX,List.getElem?_set] at hj;split at hj
    ·rename_i fU;split at hj
     ·cases hj;subst fU
      intro b ba;rw [ed] at ba;cases ba;have:=qE hg;exact Nat.lt_of_lt_of_le this fZ.size
     ·cases hj
    ·rename_i fU;exact (hI.ob j y hj).ext fZ (fun b hb he=>by subst he;exact fU (hI.dis i j _ ed hb)) (cm.refl K) (dc.refl β) rfl (fun _ _ _ h=>h)
   exact WL.val (v:=sv str) (w':=w.freeze ⟨g,0,none⟩ str.length) (by simp [execOp,resolve,invoke,builtin,hv,Sa,l0,sv]) (h B K β _ _ hm be (hF.put d (.v _)))
theorem Inv.Og {B:Bs} {K:Fz} {β:Bt} {Γ:List Ob} {w:World} {x:Bk} {y:Ob} (h:Inv B K β Γ w) (hd:∀ b,x.blk=some b->(∀ i,(β i).blk≠some b)/\B.w0.heap.size<=b/\(b≠1/\b≠2))
  (ho:jC K (eK β Γ.length x) w Γ.length y) (hold:dc β (eK β Γ.length x)):Inv B K (eK β Γ.length x) (Γ++[y]) w:=by
 refine ⟨h.ext,h.kle,h.ble.trans hold,h.loc,h.fz,fun i z hi=>?_,fun i hi=>?_,fun i j b hi hj=>?_,fun i b hi=>?_,h.kn,⟨h.tab.le,h.tab.pow,h.tab.spc,fun i b hi=>?_⟩⟩
 ·by_cases wA:i < Γ.length
  ·rw [List.getElem?_append_left wA] at hi;exact (h.ob i z hi).ext (S:=gX) (Ext.refl w) (fun _ _ h=>h) (cm.refl K) hold (bR ah) (fun _ _ _ h=>h)
  ·have:i=Γ.length:=by have:=(List.getElem?_eq_some_iff.1 hi).1;simp at this;omega
   subst this;simp at hi;subst hi;exact ho
 ·simp at hi;rw [bR ah];exact h.out i ah
 ·by_cases h1:i=Γ.length <;> by_cases h2:j=Γ.length
  ·omega
  ·subst h1;rw [bm] at hi;rw [bR h2] at hj;exact absurd hj ((hd b hi).1 j)
  ·subst h2;rw [bm] at hj;rw [bR h1] at hi;exact absurd hi ((hd b hj).1 i)
  ·rw [bR h1] at hi;rw [bR h2] at hj;exact h.dis i j b hi hj
 ·rcases oB hi with h1 | h1
  ·exact .inr (hd b h1).2.1
  ·exact h.own i b h1
 ·rcases oB hi with h1 | h1
  ·exact (hd b h1).2.2
  ·exact h.tab.free i b h1
theorem YG.Ut {x lo:Operand} {t e:TypeId} {k:Nat} [hT:ma P t e k] {rows:List (List GV)} {kk:IntKind} {i:Nat} (hx:aP fr x=.sl k rows) (gH:aP fr lo=.v (.int kk i)) (hi:Nat.blt i rows.length=true):YG P (.slice t x (some lo) none none) fr Γ (.sl k (rows.drop i)):=fun B K β w l hI hF=>by
 have hi:i < rows.length:=by simpa using hi
 have h:=hF.ev x;rw [hx] at h;have Gp:=hF.gy gH;generalize hv:ev l x=v at h
 cases h with
 | sl0 a c=>simp at hi
 | sl b o c _ _ h hc =>
  refine ⟨.slice (some ⟨b,o+i * k,none⟩) (rows.length - i) (c - i),fun d ty pos af=>?_,?_⟩
  ·have np:¬ (c=i):=by omega
   have hle:(i:Int)<=(rows.length:Int):=by omega
   simp [execOp,Instr.sliceAt,Instr.slice,Instr.sliceBounds,Instr.sliceBound,asIntOf,hv,Gp,run_underlying hT.und,gY hT.siz,np,Nat.le_of_lt hi,oH]
  ·have:=Rel.sl (K:=K) (β:=β) b (o+i * k) (c - i) k (rows.drop i) (fun j r hr=>?_) (by simp;omega)
   ·rw [List.length_drop] at this;exact this
   ·rw [List.getElem?_drop] at hr;refine ⟨(h (i+j) r hr).1,fun q g hg=>?_⟩;have:=(h (i+j) r hr).2 q g hg;rw [Nat.add_mul] at this;rw [show o+i * k+j * k+q=o+(i * k+j * k)+q by omega];exact this
theorem YG.mK {x lo:Operand} {t e:TypeId} {k:Nat} [hT:ma P t e k] {rows:List (List GV)} {kk:IntKind} {n:Int} (i:Nat) (hx:aP fr x=.sl k rows) (gH:aP fr lo=.v (.int kk n)) (hn:n=(i:Int)) (hi:Nat.blt i rows.length=true):YG P (.slice t x (some lo) none none) fr Γ (.sl k (rows.drop i)):=by
 subst hn;exact YG.Ut hx gH hi
end
end Go.Xg
namespace Go.Proofs
open Go.Shelf
def Tryz.yf:Go.Shelf.Ren:=⟨fun | 165=>162 | 240=>202 | 241=>203 | 276=>225 | 277=>226 | n=>n,fun | 70=>178 | 3=>3 | 0=>0 | 4=>4 | 9=>9 | 20=>20 | 72=>180 | 37=>100 | 164=>220 | 5=>5 | n=>n,fun | n=>n⟩
theorem Tryz.PW:Go.Proofs.Lays.n165 Tryz.prog Tryz.yf:={
 mixed:=by kernel_rfl
 f165:=Tryz.func162.trans (congrArg some (by kernel_rfl))
 f240:=Tryz.func202.trans (congrArg some (by kernel_rfl))
 f241:=Tryz.func203.trans (congrArg some (by kernel_rfl))
 f276:=Tryz.func225.trans (congrArg some (by kernel_rfl))
 f277:=Tryz.func226.trans (congrArg some (by kernel_rfl))
 t0:=Tryz.underlying0
 a0:=Tryz.isAgg0
 z0:=Tryz.sizeOf0
 v0:=Tryz.zeroValue0
 t3:=Tryz.underlying3
 a3:=Tryz.isAgg3
 z3:=Tryz.sizeOf3
 v3:=Tryz.zeroValue3
 t4:=Tryz.underlying4
 a4:=Tryz.isAgg4
 z4:=Tryz.sizeOf4
 v4:=Tryz.zeroValue4
 t9:=Tryz.underlying9
 a9:=Tryz.isAgg9
 z9:=Tryz.sizeOf9
 v9:=Tryz.zeroValue9
 t20:=Tryz.underlying20
 a20:=Tryz.isAgg20
 z20:=Tryz.sizeOf20
 v20:=Tryz.zeroValue20
 t37:=Tryz.underlying100
 a37:=Tryz.isAgg100
 z37:=Tryz.sizeOf100
 v37:=Tryz.zeroValue100
 t70:=Tryz.underlying178
 a70:=Tryz.isAgg178
 z70:=Tryz.sizeOf178
 v70:=Tryz.zeroValue178
 t72:=Tryz.underlying180
 a72:=Tryz.isAgg180
 z72:=Tryz.sizeOf180
 v72:=Tryz.zeroValue180
 t164:=Tryz.underlying220
 a164:=Tryz.isAgg220
 z164:=Tryz.sizeOf220
 v164:=Tryz.zeroValue220 }
theorem Tryz.xL:Builder.Extra Tryz.prog Tryz.yf:={
 sizeBuilder:=by kernel_rfl
 liesBuilder:=by kernel_rfl
 t5:=Tryz.underlying5
 a5:=Tryz.isAgg5
 z5:=Tryz.sizeOf5
 v5:=Tryz.zeroValue5
 infoByte:=by kernel_rfl
 cellsByte:=by kernel_rfl
 sizeByte:=by kernel_rfl
 neB5:=by decide }
open Go.RowKit in
theorem Tryz.Builder_Grow_fresh (B b n:Nat) (w:World) (hB:B<=b) (ed:w.heap[b]?=some (.cells #[.pointer none,.slice none 0 0] 180 (0,0))) (W9:B<=w.heap.size) (hn:n<=281474976710656) :
  Calls Tryz.prog 162 #[.pointer (some ⟨b,0,none⟩),.int .i64 n] w fun e w'=>e=.returned (.tuple #[])/\(Lib.BuilderAt 180 5 B b (.pointer (some ⟨b,0,none⟩)) [] w'/\Below B w w'):=Any.Builder_Grow_fresh Tryz.PW Tryz.xL B b n w hB ed W9 hn
def Tryz.Ft:Go.Shelf.Ren:=⟨fun | 137=>141 | 217=>169 | 266=>205 | n=>n,fun | 9=>9 | 5=>5 | 3=>3 | n=>n,fun | n=>n⟩
theorem Tryz.PU:Go.Proofs.Lays.n137 Tryz.prog Tryz.Ft:={
 mixed:=by kernel_rfl
 f137:=Tryz.func141.trans (congrArg some (by kernel_rfl))
 f217:=Tryz.func169.trans (congrArg some (by kernel_rfl))
 f266:=Tryz.func205.trans (congrArg some (by kernel_rfl))
 t3:=Tryz.underlying3
 a3:=Tryz.isAgg3
 z3:=Tryz.sizeOf3
 v3:=Tryz.zeroValue3
 t5:=Tryz.underlying5
 a5:=Tryz.isAgg5
 z5:=Tryz.sizeOf5
 v5:=Tryz.zeroValue5
 t9:=Tryz.underlying9
 a9:=Tryz.isAgg9
 z9:=Tryz.sizeOf9
 v9:=Tryz.zeroValue9 }
open Go.RowKit in
theorem Tryz.strings_IndexByte (s:ByteArray) (c:Int) (w:World) :
  Calls Tryz.prog 141 #[.string s,.int .u8 c] w fun e w'=>e=.returned (.int .i64 (Lib.indexByte s.data.toList c.toNat.toUInt8))/\w'=w:=Any.strings_IndexByte Tryz.PU s c w
def Tryz.Sl:Go.Shelf.Ren:=⟨fun | 246=>201 | 283=>221 | 284=>222 | 285=>223 | 286=>224 | 129=>236 | 317=>235 | 318=>237 | 319=>238 | 320=>239 | 337=>245 | 338=>246 | n=>n,fun | 2=>2 | 3=>3 | 9=>9 | 4=>4 | 171=>214 | 0=>0 | 53=>215 | 37=>100 | 5=>5 | 173=>218 | 212=>228 | 51=>223 | 20=>20 | 213=>229 | 46=>209 | 232=>243 | 233=>244 | n=>n,fun | 17=>1 | 18=>4 | 19=>5 | n=>n⟩
def Tryz.Sk:Go.Shelf.Ren:=⟨fun | 243=>161 | 246=>201 | 283=>221 | 284=>222 | 285=>223 | 286=>224 | 129=>236 | 317=>235 | 318=>237 | 319=>238 | 320=>239 | 337=>245 | 338=>246 | n=>n,fun | 3=>3 | 9=>9 | 2=>2 | 4=>4 | 171=>214 | 0=>0 | 53=>215 | 37=>100 | 5=>5 | 173=>218 | 212=>228 | 51=>223 | 20=>20 | 213=>229 | 46=>209 | 232=>243 | 233=>244 | n=>n,fun | 17=>1 | 18=>4 | 19=>5 | n=>n⟩
def Tryz.DP:Go.Shelf.Ren:=⟨fun | 171=>134 | 243=>161 | 246=>201 | 283=>221 | 284=>222 | 285=>223 | 286=>224 | 129=>236 | 317=>235 | 318=>237 | 319=>238 | 320=>239 | 337=>245 | 338=>246 | n=>n,fun | 3=>3 | 9=>9 | 2=>2 | 4=>4 | 171=>214 | 0=>0 | 53=>215 | 37=>100 | 5=>5 | 173=>218 | 212=>228 | 51=>223 | 20=>20 | 213=>229 | 46=>209 | 232=>243 | 233=>244 | n=>n,fun | 17=>1 | 18=>4 | 19=>5 | n=>n⟩
theorem Tryz.Ng:Go.Proofs.LaysM.n171 Tryz.prog Tryz.DP:={
 mixed:=by kernel_rfl
 f129:=Tryz.func236.trans (congrArg some (by kernel_rfl))
 f171:=Tryz.func134.trans (congrArg some (by kernel_rfl))
 f243:=Tryz.func161.trans (congrArg some (by kernel_rfl))
 f246:=Tryz.func201.trans (congrArg some (by kernel_rfl))
 f283:=Tryz.func221.trans (congrArg some (by kernel_rfl))
 f284:=Tryz.func222.trans (congrArg some (by kernel_rfl))
 f285:=Tryz.func223.trans (congrArg some (by kernel_rfl))
 f286:=Tryz.func224.trans (congrArg some (by kernel_rfl))
 f317:=Tryz.func235.trans (congrArg some (by kernel_rfl))
 f318:=Tryz.func237.trans (congrArg some (by kernel_rfl))
 f319:=Tryz.func238.trans (congrArg some (by kernel_rfl))
 f320:=Tryz.func239.trans (congrArg some (by kernel_rfl))
 f337:=Tryz.func245.trans (congrArg some (by kernel_rfl))
 f338:=Tryz.func246.trans (congrArg some (by kernel_rfl))
 t0:=Tryz.underlying0
 a0:=Tryz.isAgg0
 z0:=Tryz.sizeOf0
 v0:=Tryz.zeroValue0
 t2:=Tryz.underlying2
 a2:=Tryz.isAgg2
 z2:=Tryz.sizeOf2
 v2:=Tryz.zeroValue2
 t3:=Tryz.underlying3
 a3:=Tryz.isAgg3
 z3:=Tryz.sizeOf3
 v3:=Tryz.zeroValue3
 t4:=Tryz.underlying4
 a4:=Tryz.isAgg4
 z4:=Tryz.sizeOf4
 v4:=Tryz.zeroValue4
 t5:=Tryz.underlying5
 a5:=Tryz.isAgg5
 z5:=Tryz.sizeOf5
 v5:=Tryz.zeroValue5
 t9:=Tryz.underlying9
 a9:=Tryz.isAgg9
 z9:=Tryz.sizeOf9
 v9:=Tryz.zeroValue9
 t20:=Tryz.underlying20
 a20:=Tryz.isAgg20
 z20:=Tryz.sizeOf20
 v20:=Tryz.zeroValue20
 t37:=Tryz.underlying100
 a37:=Tryz.isAgg100
 z37:=Tryz.sizeOf100
 v37:=Tryz.zeroValue100
 t46:=Tryz.underlying209
 a46:=Tryz.isAgg209
 z46:=Tryz.sizeOf209
 v46:=Tryz.zeroValue209
 t51:=Tryz.underlying223
 a51:=Tryz.isAgg223
 z51:=Tryz.sizeOf223
 v51:=Tryz.zeroValue223
 t53:=Tryz.underlying215
 a53:=Tryz.isAgg215
 z53:=Tryz.sizeOf215
 v53:=Tryz.zeroValue215
 t171:=Tryz.underlying214
 a171:=Tryz.isAgg214
 z171:=Tryz.sizeOf214
 v171:=Tryz.zeroValue214
 t173:=Tryz.underlying218
 a173:=Tryz.isAgg218
 z173:=Tryz.sizeOf218
 v173:=Tryz.zeroValue218
 t212:=Tryz.underlying228
 a212:=Tryz.isAgg228
 z212:=Tryz.sizeOf228
 v212:=Tryz.zeroValue228
 t213:=Tryz.underlying229
 a213:=Tryz.isAgg229
 z213:=Tryz.sizeOf229
 t232:=Tryz.underlying243
 a232:=Tryz.isAgg243
 z232:=Tryz.sizeOf243
 v232:=Tryz.zeroValue243
 t233:=Tryz.underlying244
 a233:=Tryz.isAgg244
 z233:=Tryz.sizeOf244
 v233:=Tryz.zeroValue244
 g17:=by kernel_rfl
 g18:=by kernel_rfl
 g19:=by kernel_rfl
 i0:=by kernel_rfl
 i2:=by kernel_rfl
 i3:=by kernel_rfl
 i4:=by kernel_rfl
 i5:=by kernel_rfl
 i9:=by kernel_rfl
 i20:=by kernel_rfl
 i37:=by kernel_rfl
 i46:=by kernel_rfl
 i51:=by kernel_rfl
 i53:=by kernel_rfl
 i171:=by kernel_rfl
 i173:=by kernel_rfl
 i212:=by kernel_rfl
 i232:=by kernel_rfl
 i233:=by kernel_rfl
 m17:=by kernel_rfl
 m18:=by kernel_rfl
 m19:=by kernel_rfl }
open Go.RowKit Go.Sort Go.Lib in
theorem Tryz.strconv_Itoa (n:Int) (h0 : -9223372036854775808<=n) (h1:n<=9223372036854775807) (w:World) (yL:Lib.TabIs Tryz.prog w "internal/strconv.uint64pow10" .u64 Lib.pow10Tab) :
  Calls Tryz.prog 134 #[.int .i64 n] w fun e w'=>e=.returned (.string ⟨(Lib.itoa n).toArray⟩)/\∃ k os,w'=grow (w.drewN k) os:=Any.strconv_Itoa Tryz.Ng n h0 h1 w yL
def Tryz.Td:Go.Shelf.Ren:=⟨fun | 219=>171 | 217=>169 | 225=>206 | 224=>207 | 267=>208 | 266=>205 | 314=>227 | n=>n,fun | 9=>9 | 3=>3 | 4=>4 | 5=>5 | 46=>209 | 146=>224 | 51=>223 | n=>n,fun | 1=>0 | n=>n⟩
def Tryz.Fu:Go.Shelf.Ren:=⟨fun | 143=>143 | 219=>171 | 217=>169 | 225=>206 | 224=>207 | 267=>208 | 266=>205 | 314=>227 | n=>n,fun | 9=>9 | 3=>3 | 4=>4 | 5=>5 | 46=>209 | 146=>224 | 51=>223 | n=>n,fun | 1=>0 | n=>n⟩
theorem Tryz.PV:Go.Proofs.Lays.n143 Tryz.prog Tryz.Fu:={
 mixed:=by kernel_rfl
 f143:=Tryz.func143.trans (congrArg some (by kernel_rfl))
 f217:=Tryz.func169.trans (congrArg some (by kernel_rfl))
 f219:=Tryz.func171.trans (congrArg some (by kernel_rfl))
 f224:=Tryz.func207.trans (congrArg some (by kernel_rfl))
 f225:=Tryz.func206.trans (congrArg some (by kernel_rfl))
 f266:=Tryz.func205.trans (congrArg some (by kernel_rfl))
 f267:=Tryz.func208.trans (congrArg some (by kernel_rfl))
 f314:=Tryz.func227.trans (congrArg some (by kernel_rfl))
 t3:=Tryz.underlying3
 a3:=Tryz.isAgg3
 z3:=Tryz.sizeOf3
 v3:=Tryz.zeroValue3
 t4:=Tryz.underlying4
 a4:=Tryz.isAgg4
 z4:=Tryz.sizeOf4
 v4:=Tryz.zeroValue4
 t5:=Tryz.underlying5
 a5:=Tryz.isAgg5
 z5:=Tryz.sizeOf5
 v5:=Tryz.zeroValue5
 t9:=Tryz.underlying9
 a9:=Tryz.isAgg9
 z9:=Tryz.sizeOf9
 v9:=Tryz.zeroValue9
 t46:=Tryz.underlying209
 a46:=Tryz.isAgg209
 z46:=Tryz.sizeOf209
 v46:=Tryz.zeroValue209
 t51:=Tryz.underlying223
 a51:=Tryz.isAgg223
 z51:=Tryz.sizeOf223
 v51:=Tryz.zeroValue223
 t146:=Tryz.underlying224
 a146:=Tryz.isAgg224
 z146:=Tryz.sizeOf224
 v146:=Tryz.zeroValue224
 g1:=by kernel_rfl }
open Go.RowKit Go.Lib in
theorem Tryz.strings_Index (s sub:ByteArray) (m:Int) (w:World) (hs:s.size < 4294967281) (hm:w.cell? ⟨0,0,none⟩=some (.int .i64 m)) :
  Calls Tryz.prog 143 #[.string s,.string sub] w fun e w'=>e=.returned (.int .i64 (Lib.index s.data.toList sub.data.toList))/\w'=w:=Any.strings_Index Tryz.PV s sub m w hs hm
def Tryz.Tc:Go.Shelf.Ren:=⟨fun | 157=>228 | 229=>240 | 199=>241 | 261=>247 | 311=>250 | 312=>251 | n=>n,fun | 9=>9 | 31=>22 | 3=>3 | 5=>5 | 4=>4 | 119=>231 | 0=>0 | 40=>233 | 152=>237 | 21=>21 | 154=>239 | 51=>223 | 141=>241 | 196=>248 | 193=>245 | 198=>251 | 49=>249 | 194=>246 | 201=>254 | 226=>257 | 46=>209 | 227=>258 | n=>n,fun | 0=>2 | 6=>3 | n=>n⟩
def Tryz.DO:Go.Shelf.Ren:=⟨fun | 157=>228 | 229=>240 | 199=>241 | 261=>247 | 311=>250 | 312=>251 | n=>n,fun | 9=>9 | 31=>22 | 3=>3 | 5=>5 | 4=>4 | 119=>231 | 0=>0 | 40=>233 | 152=>237 | 21=>21 | 154=>239 | 51=>223 | 141=>241 | 196=>248 | 193=>245 | 198=>251 | 49=>249 | 194=>246 | 201=>254 | 226=>257 | 46=>209 | 227=>258 | n=>n,fun | 0=>2 | 6=>3 | n=>n⟩
theorem Tryz.Nf:Go.Proofs.LaysM.n157 Tryz.prog Tryz.DO:={
 mixed:=by kernel_rfl
 f157:=Tryz.func228.trans (congrArg some (by kernel_rfl))
 f199:=Tryz.func241.trans (congrArg some (by kernel_rfl))
 f229:=Tryz.func240.trans (congrArg some (by kernel_rfl))
 f261:=Tryz.func247.trans (congrArg some (by kernel_rfl))
 f311:=Tryz.func250.trans (congrArg some (by kernel_rfl))
 f312:=Tryz.func251.trans (congrArg some (by kernel_rfl))
 t0:=Tryz.underlying0
 a0:=Tryz.isAgg0
 z0:=Tryz.sizeOf0
 v0:=Tryz.zeroValue0
 t3:=Tryz.underlying3
 a3:=Tryz.isAgg3
 z3:=Tryz.sizeOf3
 v3:=Tryz.zeroValue3
 t4:=Tryz.underlying4
 a4:=Tryz.isAgg4
 z4:=Tryz.sizeOf4
 v4:=Tryz.zeroValue4
 t5:=Tryz.underlying5
 a5:=Tryz.isAgg5
 z5:=Tryz.sizeOf5
 v5:=Tryz.zeroValue5
 t9:=Tryz.underlying9
 a9:=Tryz.isAgg9
 z9:=Tryz.sizeOf9
 v9:=Tryz.zeroValue9
 t21:=Tryz.underlying21
 a21:=Tryz.isAgg21
 z21:=Tryz.sizeOf21
 v21:=Tryz.zeroValue21
 t31:=Tryz.underlying22
 a31:=Tryz.isAgg22
 z31:=Tryz.sizeOf22
 v31:=Tryz.zeroValue22
 t40:=Tryz.underlying233
 a40:=Tryz.isAgg233
 z40:=Tryz.sizeOf233
 v40:=Tryz.zeroValue233
 t46:=Tryz.underlying209
 a46:=Tryz.isAgg209
 z46:=Tryz.sizeOf209
 v46:=Tryz.zeroValue209
 t49:=Tryz.underlying249
 a49:=Tryz.isAgg249
 z49:=Tryz.sizeOf249
 v49:=Tryz.zeroValue249
 t51:=Tryz.underlying223
 a51:=Tryz.isAgg223
 z51:=Tryz.sizeOf223
 v51:=Tryz.zeroValue223
 t119:=Tryz.underlying231
 a119:=Tryz.isAgg231
 z119:=Tryz.sizeOf231
 t141:=Tryz.underlying241
 a141:=Tryz.isAgg241
 z141:=Tryz.sizeOf241
 v141:=Tryz.zeroValue241
 t152:=Tryz.underlying237
 a152:=Tryz.isAgg237
 z152:=Tryz.sizeOf237
 v152:=Tryz.zeroValue237
 t154:=Tryz.underlying239
 a154:=Tryz.isAgg239
 z154:=Tryz.sizeOf239
 v154:=Tryz.zeroValue239
 t193:=Tryz.underlying245
 a193:=Tryz.isAgg245
 z193:=Tryz.sizeOf245
 v193:=Tryz.zeroValue245
 t194:=Tryz.underlying246
 a194:=Tryz.isAgg246
 z194:=Tryz.sizeOf246
 v194:=Tryz.zeroValue246
 t196:=Tryz.underlying248
 a196:=Tryz.isAgg248
 z196:=Tryz.sizeOf248
 v196:=Tryz.zeroValue248
 t198:=Tryz.underlying251
 a198:=Tryz.isAgg251
 z198:=Tryz.sizeOf251
 v198:=Tryz.zeroValue251
 t201:=Tryz.underlying254
 a201:=Tryz.isAgg254
 z201:=Tryz.sizeOf254
 v201:=Tryz.zeroValue254
 t226:=Tryz.underlying257
 a226:=Tryz.isAgg257
 z226:=Tryz.sizeOf257
 v226:=Tryz.zeroValue257
 t227:=Tryz.underlying258
 a227:=Tryz.isAgg258
 z227:=Tryz.sizeOf258
 v227:=Tryz.zeroValue258
 g0:=by kernel_rfl
 g6:=by kernel_rfl
 i0:=by kernel_rfl
 i3:=by kernel_rfl
 i4:=by kernel_rfl
 i5:=by kernel_rfl
 i9:=by kernel_rfl
 i21:=by kernel_rfl
 i31:=by kernel_rfl
 i40:=by kernel_rfl
 i46:=by kernel_rfl
 i49:=by kernel_rfl
 i51:=by kernel_rfl
 i141:=by kernel_rfl
 i152:=by kernel_rfl
 i154:=by kernel_rfl
 i193:=by kernel_rfl
 i194:=by kernel_rfl
 i196:=by kernel_rfl
 i198:=by kernel_rfl
 i201:=by kernel_rfl
 i226:=by kernel_rfl
 i227:=by kernel_rfl
 m0:=by kernel_rfl
 m6:=by kernel_rfl }
open Go.RowKit Go.Lib in
theorem Tryz.strings_Fields_laid (s:ByteArray) (w:World) (hs:s.size < 4294967281) (Rp:∀ (j:Nat) b,s.data.toList[j]?=some b->b.toNat < 128) (yL:Lib.TabIs Tryz.prog w "strings.asciiSpace" .u8 Lib.asciiSpaceTab) :
  Calls Tryz.prog 228 #[.string s] w fun e w' =>
   e=.returned (.slice (some ⟨w.heap.size,0,none⟩) (Lib.fields s.data.toList).length (Lib.fields s.data.toList).length)/\w'=w.alloc (.cells ((Lib.fields s.data.toList).map fun l=>Value.string ⟨l.toArray⟩).toArray 9):=Any.strings_Fields_laid Tryz.Nf s w hs Rp yL
end Go.Proofs
set_option maxHeartbeats 1000000
namespace Go.Xg
open Go.RowKit Go.Xw Go.Proofs
attribute [local irreducible] GW GL GO YG GC GA aS aW
instance:Bq Tryz.prog 100 5:=Bq.mk' (ak)
instance:Ao Tryz.prog 178:=Ao.mk' (e:=180) (ak) (ak)
theorem Fg (g:Value):GF Tryz.prog 202 [.loc 0 0] [.box 180 [.loc 0 0,.v g]] (.tup []) [.box 180 [.loc 0 0,.v g]]:=by
 refine ai Tryz.func202 Tryz.ntmps202 ?_;exact eX
theorem qN (s:ae) (n:Nat) (a:Option Addr) (c:Nat) (rows:List (List GV)) (hn:rows.length=n) (hb:n+s.length<=140737488355328) :
  GC Tryz.prog 163 [.loc 0 0,.v (sv s)] [.box 180 [.loc 0 0,.v (.slice a n c)],.vech 5 1 rows (.slice a n c)] (fun g aH=>(∃ x,g=.tup [.v (ii s.length),x])/\∃ a c,aH=[.box 180 [.loc 0 0,.v (.slice a (n+s.length) c)],.vech 5 1 (rows++bW s) (.slice a (n+s.length) c)]):=by
 subst hn;have h:=Fg (.slice a rows.length c)
 cases s with
 | nil =>
  refine ai Tryz.func163 Tryz.ntmps163 ?_;refine U [0] (h) ?_;refine GL.Th 1 rfl rfl rfl (by simpa using hb) ?_;refine cL ?_;refine ab ?_;refine xG ?_;exact ⟨⟨_,rfl⟩,a,c,by simp [bW]⟩
 | cons x r =>
  generalize hs:x::r=s at *
  have bO:s.isEmpty=false:=by rw [<-hs];rfl
  clear hs;refine ai Tryz.func163 Tryz.ntmps163 ?_;refine U [0] (h) ?_;refine GL.Ti 1 rfl rfl rfl (by first | rfl | assumption) (by assumption) ah ?_;intro a2 c2;refine cL ?_;refine ab ?_;refine xG ?_;exact ⟨⟨_,rfl⟩,a2,c2,rfl⟩
theorem Ml (str:ae) (a:Option Addr) (c:Nat) (h0:str≠[]) (hb:str.length<=140737488355328) :
  GF Tryz.prog 164 [.loc 0 0] [.box 180 [.loc 0 0,.v (.slice a str.length c)],.vech 5 1 (bW str) (.slice a str.length c)] (.v (sv str)) [.box 180 [.loc 0 0,.v (.slice a str.length c)],.lost]:=by
 have hlen:(bW str).length=str.length:=by simp [bW]
 have hp:Nat.blt 0 str.length=true:=by simpa using List.length_pos_iff.2 h0
 have bO:str.isEmpty=false:=by cases str with | nil=>exact absurd rfl h0 | cons _ _=>rfl
 refine ai Tryz.func164 Tryz.ntmps164 ?_;refine GW.draw (.q 0 (.q 1 (.q 2 (.q 3 (.q 4 (.q 5 (.q 6 (.q 7 (.q 8 (.q 9 (.a 10 (.q 11 .nil)))))))))))) (by kernel_rfl) (by kernel_rfl) ?_;refine aj ?_;refine I5 ?_;refine aj ?_;exact av
end Go.Xg
namespace Go.Xg
open Go.RowKit Go.Xw Go.Proofs
open Go.Xp (bx)
theorem nG.B9 {P:Program} {f:FuncId} {vs:List Value} {w:World} {R:Value->World->Prop} (h:Calls P f vs.toArray w fun e w'=>∃ v,e=.returned v/\R v w'):nG P f vs w R:=h
theorem GW.builder {Q:dQ} {fr:List GV} {r1 r2:Nat} {rest:Code} {t8 t56 t57 t5:Tmp} {T1 T2 T3 T4 T5:TypeId} {p1 p2 p3:String} {a1 a2 a3:Array Edge} (n:Nat)
  (h8:iT fr t8=true) (UE:iT fr t56=true) (bO:Nat.beq t8 t56=false) (V2:Nat.beq t5 t8=false) (hn:cj fr t5=.v (ii (n:Nat))) (hb:n<=281474976710656)
  (h:∀ a c,GW Tryz.prog 0 rest Q (bj (bj (bj fr t8 (.loc 0 0)) t56 (.v (ii (n:Nat)))) t57 (.v (.tuple #[]))) [.box 180 [.loc 0 0,.v (.slice a 0 c)],.vech 5 1 [] (.slice a 0 c)]) :
  GW Tryz.prog 0 (.seq (.region r1 [(⟨some t8,.alloc 180,T1,p1,a1,none⟩:Oper)].toArray false) (.seq (.region r2 [(⟨some t56,.move (.tmp t5),T2,p2,a2,none⟩:Oper),⟨some t57,.call ⟨.value (.func 162),[Operand.tmp t8,.tmp t56].toArray,#[T3,T4]⟩,T5,p3,a3,none⟩].toArray false) rest)) Q fr []:=fun B K β w l hm hI hF=>by
 have Dx:t8≠t56:=by intro e;subst e;simp at bO
 have OG:t5≠t8:=by intro e;subst e;simp at V2
 have i8:=lM hF h8;have i56:=lM hF UE;refine W.seq (W.region (WL.alloc (t:=180) fun b w1 qW=>WL.nil ?_));refine W.seq (W.region (WL.v R.mv (WL.call (f:=162) (Au:=[.pointer (some ⟨b,0,none⟩),.int .i64 n]) ?_ (R:=fun x w2=>x=.tuple #[]/\(Lib.BuilderAt 180 5 b b (.pointer (some ⟨b,0,none⟩)) [] w2/\Below b w1 w2)) ?_ fun x w2 hx=>WL.nil ?_)))
 ·have Xa:FR K (eK β 0 (.fix b)) (bj fr t8 (.loc 0 0)) (put l (some t8) (.pointer (some ⟨b,0,none⟩))) :=
   (hF.mono (cm.refl K) (gk (i:=0) (x:=.fix b) (by rw [hI.out 0 (Nat.le_refl _)];trivial))).eF t8 (.loc 0 0 b bm)
  have X8:iT (eF l t8 (.pointer (some ⟨b,0,none⟩))) t56=true:=lM Xa (t:=t56) (by rw [GB];exact UE)
  have e5:nth (eF l t8 (.pointer (some ⟨b,0,none⟩))) t5=.int .i64 n:=by
   rw [nf OG];exact Rel.eT (by rw [<-hn];exact hF.nth t5)
  show [nth (eF (eF l t8 (.pointer (some ⟨b,0,none⟩))) t56 (nth (eF l t8 (.pointer (some ⟨b,0,none⟩))) t5)) t8,nth (eF (eF l t8 (.pointer (some ⟨b,0,none⟩))) t56 (nth (eF l t8 (.pointer (some ⟨b,0,none⟩))) t5)) t56]=_;rw [nf Dx,rq i8,rq X8,e5]
 ·refine nG.B9 (Calls.mono (Tryz.Builder_Grow_fresh b b n w1 (Nat.le_refl _) qW.blk (by have:=qW.size;omega) hb) ?_);rintro e w' ⟨h1,h2⟩;exact ⟨_,h1,rfl,h2⟩
 ·obtain ⟨rfl,⟨_,v,kE,fT,ur⟩,Dn⟩:=hx;have fT:gw w2 b 5 1 v 0 []:=fT;obtain ⟨a,c,rfl⟩:=fT.shape;have sW:=qW.fresh;have fZ:Ext gX w w2:=⟨Dn.os.trans qW.ext.os,Dn.tape.trans qW.ext.tape,Dn.output.trans qW.ext.output,Nat.le_trans qW.ext.size Dn.size,fun k hk hs=>(Dn.block k ah).trans (qW.ext.block k hk hs)⟩;have oo:=hI.same fZ
  have bV:∀ i,β i=.no:=fun i=>hI.out i (Nat.zero_le _)
  have Rk:∀ o,K b o=none:=fun o=>by
   cases hk:K b o with
   | none=>rfl
   | some g=>have:=hI.fz.lt hk;omega
  have U6:=hI.ext.size;have YP:=hI.tab.pow.lt;have lZ:=hI.tab.spc.lt;have RG:dc β (eK β ([]:List Ob).length (.fix b)):=gk (by rw [bV];trivial)
  have Ke:=oo.Og (x:=.fix b) (y:=.box 180 [.loc 0 0,.v (.slice a 0 c)]) (fun b' ba=>by
   cases ba
   exact ⟨fun i hi=>(by rw [bV] at hi;cases hi),by omega,by omega,by omega⟩) (by
   refine ⟨b,[.pointer (some ⟨b,0,none⟩),.slice a 0 c],bm,kE,.cons (.loc 0 0 b bm) (.cons (.v _) .nil),Rk⟩) RG
  have zJ:gw w2 0 5 1 (.slice a 0 c) 0 []:=fT.base (Nat.zero_le _)
  have UL:∀ g,(Value.slice a 0 c).ownBlock=some g->b < g:=fun g hg=>by
   have h1:=(fT.lt hg).1
   have h2:g≠b:=fun e=>ur (by rw [hg,e])
   omega
  have xX:eK β ([]:List Ob).length (.fix b) 1=.no:=by rw [bR (by decide)];exact bV 1
  have yJ:dc (eK β ([]:List Ob).length (.fix b)) (eK (eK β ([]:List Ob).length (.fix b)) 1 (.gr (.slice a 0 c) 0)):=gk (by rw [xX];trivial)
  have Xc:=Ke.Og (x:=.gr (.slice a 0 c) 0) (y:=.vech 5 1 [] (.slice a 0 c)) (fun g hg=>by
   have:=UL g hg;refine ⟨fun i hi=>?_,by omega,by omega,by omega⟩
   rcases oB hi with h1 | h1
   ·cases h1;omega
   ·rw [bV] at h1;cases h1) (by
   refine ⟨[],bm,zJ,aV.nil,(fun r hr=>by cases hr),fun g hg o=>?_⟩
   cases hk:K g o with
   | none=>rfl
   | some y=>have:=hI.fz.lt hk;have:=UL g hg;omega) yJ
  refine h a c B K _ w2 _ hm Xc ?_;have Xb:=(hF.mono (cm.refl K) RG).mono (cm.refl K) yJ;refine ((Xb.eF t8 (.loc 0 0 b ?_)).eF t56 ?_).eF t57 (.v _)
  ·rw [bR (by decide)];exact bm
  ·have e5:nth (eF l t8 (.pointer (some ⟨b,0,none⟩))) t5=.int .i64 n:=by
    rw [nf OG];exact Rel.eT (by rw [<-hn];exact hF.nth t5)
   rw [show ev (put l (some t8) (.pointer (some ⟨b,0,none⟩))) (.tmp t5)=.int .i64 n from e5];exact .v _
end Go.Xg
namespace Go.Xg
open Go.RowKit Go.Xw Go.Proofs
open Go.Xp (bx)
attribute [local irreducible] GW GL GO YG GC GA aS aW
theorem sQ (a b:ae):bW (a++b)=bW a++bW b:=by simp [bW]
def l9 (l:List ae):Nat:=(l.map List.length).sum
theorem BZ:∀ (r:List ae) (x:ae),(bx (x::r)).length=l9 (x::r)+2 * r.length
 | [],x=>by simp [bx,l9]
 | y::r,x=>by
  have:=BZ r y;simp only [bx,l9,length_append,List.map_cons,sum_cons,List.flatMap_cons,length_cons] at this |-;omega
def gj (l:List ae):ae:=l.flatMap fun y=>44::32::y
theorem Ka (a b:List ae):gj (a++b)=gj a++gj b:=by unfold gj;rw [List.flatMap_append]
theorem PH (l:List ae) (k:Nat):(gj (l.take k)).length<=(gj l).length:=by
 have:gj l=gj (l.take k)++gj (l.drop k):=by rw [<-Ka,List.take_append_drop]
 rw [this,length_append];omega
theorem Q9 (y:ae):gj [y]=[44,32]++y:=by simp [gj]
theorem M3 (x:ae) (r:List ae):bx (x::r)=x++gj r:=rfl
theorem Jh (l:List ae) (hb:(bx l).length<=1099511627776) (hl:l.length<=1099511627776):GF Tryz.prog 135 [strs l,.v (sv [44,32])] [] (.v (sv (bx l))) []:=by
 match l,hb,hl with
 | [],hb,hl =>
  refine ai Tryz.func135 Tryz.ntmps135 ?_;exact ao
 | [x],hb,hl =>
  have hr:([x].map fun s=>[GV.v (sv s)])[0]?=some [.v (sv x)]:=rfl
  have e:bx [x]=x:=by simp [bx]
  rw [e];refine ai Tryz.func135 Tryz.ntmps135 ?_;exact ao
 | x::y::r,hb,hl =>
  have qB:((x::y::r).map fun s=>[GV.v (sv s)])[0]?=some [.v (sv x)]:=rfl;have hlen:=BZ (y::r) x
  have yd:x.length<=1099511627776:=by simp only [bx,length_append] at hb;omega
  generalize hL:(x::y::r)=l at *
  have jR:2<=l.length:=by rw [<-hL];simp
  have dq:(l.map fun s=>[GV.v (sv s)]).length=l.length:=by simp
  have xX:Nat.blt 1 (l.map fun s=>[GV.v (sv s)]).length=true:=by rw [dq];simpa [Nat.blt] using jR
  have BP:(((l.map fun s=>[GV.v (sv s)]).length:Int)==0)=false:=by rw [dq];simp only [beq_eq_false_iff_ne,ne_eq];omega
  have Dw:(((l.map fun s=>[GV.v (sv s)]).length:Int)==1)=false:=by rw [dq];simp only [beq_eq_false_iff_ne,ne_eq];omega
  have hq:decide ((9223372036854775807:Int) / (((l.map fun s=>[GV.v (sv s)]).length:Int) - 1)<=2)=false:=by
   rw [dq]
   have h3:(3:Int)<=9223372036854775807 / ((l.length:Int) - 1):=by
    rw [Int.le_ediv_iff_mul_le ah];omega
   simp;omega
  refine ai Tryz.func135 Tryz.ntmps135 ?_;apply GL.q
  ·exact YG.mul (a:=2) (b:=((l.map fun s=>[GV.v (sv s)]).length:Int) - 1) rfl rfl ah
  refine cy ?_;refine ab ?_;refine GW.range (l.map fun s=>[GV.v (sv s)]).length (fun k fr Γ=>fr=[strs l,.v (sv [44,32]),.Zy,.Zy,.Zy,.v (ii (0+2 * (((l.map fun s=>[GV.v (sv s)]).length:Int) - 1)+((l9 (l.take k):Nat):Int))),.Zy,.Zy,.Zy,.Zy,.Zy,.Zy,.Zy,.Zy,.Zy,.Zy,.Zy,.Zy,.Zy,.Zy,.Zy,.Zy,.Zy,.Zy,.Zy,.Zy,.Zy,.Zy,.Zy,.Zy,.Zy,.Zy,.Zy,.Zy,.Zy,.Zy,.Zy,.Zy,.Zy,strs l,.v (ii ((l.map fun s=>[GV.v (sv s)]).length:Int)),.v (ii (k:Nat)),.Zy,.Zy,.Zy,.Zy,.Zy,.Zy,.Zy,.Zy,.Zy,.Zy,.Zy,.Zy,.Zy,.Zy,.Zy,.Zy,.Zy,.Zy,.Zy,.Zy,.Zy,.Zy,.Zy,.Zy,.Zy,.Zy,.Zy,.Zy,.Zy,.Zy,.Zy,.Zy,.Zy]/\Γ=[]) ?_ ah ?_ ?_ ?_
  ·refine ⟨_,_,Wk.ax (bQ:=[strs l,.v (sv [44,32]),.Zy,.Zy,.Zy,.v (ii (0+2 * (((l.map fun s=>[GV.v (sv s)]).length:Int) - 1))),.Zy,.Zy,.Zy,.Zy,.Zy,.Zy,.Zy,.Zy,.Zy,.Zy,.Zy,.Zy,.Zy,.Zy,.Zy,.Zy,.Zy,.Zy,.Zy,.Zy,.Zy,.Zy,.Zy,.Zy,.Zy,.Zy,.Zy,.Zy,.Zy,.Zy,.Zy,.Zy,.Zy,strs l,.v (ii ((l.map fun s=>[GV.v (sv s)]).length:Int)),.v (ii (0:Nat)),.Zy,.Zy,.Zy,.Zy,.Zy,.Zy,.Zy,.Zy,.Zy,.Zy,.Zy,.Zy,.Zy,.Zy,.Zy,.Zy,.Zy,.Zy,.Zy,.Zy,.Zy,.Zy,.Zy,.Zy,.Zy,.Zy,.Zy,.Zy,.Zy,.Zy,.Zy,.Zy,.Zy]) al,?_,rfl⟩;rw [List.take_zero,show ((l9 []:Nat):Int)=0 from rfl,Int.add_zero]
  ·rintro k _ _ ⟨rfl,rfl⟩;exact ⟨rfl,rfl,rfl⟩
  ·rintro k _ _ aq ⟨rfl,rfl⟩;rw [dq] at aq
   have cz:l[k]?=some l[k]:=by simp [aq]
   have zF:(l.map fun s=>[GV.v (sv s)])[k]?=some [.v (sv l[k])]:=by rw [getElem?_map,cz];rfl
   have hs:l9 (l.take (k+1))=l9 (l.take k)+l[k].length:=by unfold l9;rw [take_add_one,cz,map_append,List.sum_append];simp only [Option.toList,List.map_cons,map_nil,sum_cons,List.sum_nil,Nat.add_zero]
   have hle:l9 (l.take (k+1))<=l9 l:=by
    have:l9 l=l9 (l.take (k+1))+l9 (l.drop (k+1)):=by
     unfold l9;rw [<-List.sum_append,<-map_append,List.take_append_drop]
    omega
   generalize l[k]=z at *;rw [show (0+2 * (((l.map fun s=>[GV.v (sv s)]).length:Int) - 1)+((l9 (l.take (k+1)):Nat):Int))=0+2 * (((l.map fun s=>[GV.v (sv s)]).length:Int) - 1)+((l9 (l.take k):Nat):Int)+(z.length:Int) by rw [hs];omega]
   have Zo:decide (9223372036854775807 - (0+2 * (((l.map fun s=>[GV.v (sv s)]).length:Int) - 1)+((l9 (l.take k):Nat):Int)) < (z.length:Int))=false:=by
    simp only [decide_eq_false_iff_not];omega
   refine ab ?_;exact ⟨rfl,rfl,_,_,Wk.ax al,rfl,rfl⟩
  ·rintro _ _ ⟨rfl,rfl⟩;rw [dq,take_length]
   have hN:(0+2 * ((l.length:Int) - 1)+((l9 l:Nat):Int))=(((bx l).length:Nat):Int):=by
    have:(y::r).length+1=l.length:=by rw [<-hL];simp
    omega
   rw [hN];refine aL ?_
   refine GW.builder (bx l).length rfl rfl rfl rfl rfl ah fun a c=>?_
   refine ab ?_;refine bZ [0,1] (qN x 0 a c [] rfl ah) ?_;rintro _ _ ⟨⟨u1,rfl⟩,a1,c1,rfl⟩;refine da ?_;refine ab ?_
   have key:∀ k,(x++gj ((y::r).take k)).length<=1099511627776:=fun k=>by
    have h1:=PH (y::r) k;rw [<-hL,M3,length_append] at hb;rw [length_append];omega
   refine GW.range ((y::r).map fun s=>[GV.v (sv s)]).length (fun k fr Γ=>∃ acc a c,fr=[.Zy,.v (sv [44,32]),.Zy,.Zy,.Zy,.Zy,.Zy,.Zy,.loc 0 0,.Zy,.Zy,.Zy,.Zy,.Zy,.Zy,.Zy,.Zy,.Zy,.Zy,.Zy,.Zy,.Zy,.Zy,.Zy,.Zy,.Zy,.Zy,.Zy,.Zy,.Zy,.Zy,.Zy,.Zy,.Zy,.Zy,.Zy,.Zy,.Zy,.Zy,.Zy,.Zy,.Zy,.Zy,.Zy,.Zy,.Zy,.Zy,.Zy,.Zy,.Zy,.Zy,.Zy,.Zy,.Zy,.Zy,.Zy,.Zy,.Zy,.Zy,.Zy,.Zy,.Zy,.Zy,strs (y::r),.v (ii (((y::r).map fun s=>[GV.v (sv s)]).length:Int)),.v (ii (k:Nat)),.Zy,.Zy,.Zy,.Zy,.Zy,.Zy,.Zy,.Zy,.Zy]/\acc=x++gj ((y::r).take k)/\Γ=[.box 180 [.loc 0 0,.v (.slice a acc.length c)],.vech 5 1 (bW acc) (.slice a acc.length c)]) ?_ ?_ ?_ ?_ ?_
   ·rw [show 0+x.length=x.length from Nat.zero_add _];subst hL;exact ⟨_,_,Wk.ax al,x,a1,c1,rfl,by simp [gj],rfl⟩
   ·have:((y::r).map fun s=>[GV.v (sv s)]).length+1=l.length:=by rw [<-hL];simp
    omega
   ·rintro k _ _ ⟨acc,a,c,rfl,_,rfl⟩;exact ⟨rfl,rfl,rfl⟩
   ·rintro k _ _ aq ⟨acc,a,c,rfl,ku,rfl⟩
    have aq:k < (y::r).length:=by simpa using aq
    have cz:(y::r)[k]?=some (y::r)[k]:=by simp [aq]
    have zF:((y::r).map fun s=>[GV.v (sv s)])[k]?=some [.v (sv (y::r)[k])]:=by rw [getElem?_map,cz];rfl
    have bp:x++gj ((y::r).take (k+1))=(acc++[44,32])++(y::r)[k]:=by
     rw [take_add_one,cz,Ka,<-append_assoc,<-ku,append_assoc]
     congr 1
     exact Q9 _
    have sX:=key k;have qy:=key (k+1);rw [bp] at qy;rw [<-ku] at sX;simp only [length_append,length_cons,length_nil] at qy;generalize (y::r)[k]=z at *
    have TE:(bW acc).length=acc.length:=by simp [bW]
    refine ab ?_;refine bZ [0,1] (qN [44,32] acc.length a c (bW acc) TE (by simp only [length_cons,length_nil];omega)) ?_;rintro _ _ ⟨⟨u1,rfl⟩,a2,c2,rfl⟩;refine da ?_;rw [show bW acc++[[GV.v (.int .u8 ((44:UInt8).toNat:Int))],[GV.v (.int .u8 ((32:UInt8).toNat:Int))]]=bW (acc++[44,32]) by simp [bW],show acc.length+([44,32]:ae).length=(acc++[44,32]).length by simp];refine ab ?_;refine bZ [0,1] (qN z (acc++[44,32]).length a2 c2 (bW (acc++[44,32])) (by simp [bW]) (by simp only [length_append,length_cons,length_nil];omega)) ?_;rintro _ _ ⟨⟨u2,rfl⟩,a3,c3,rfl⟩;refine da ?_
    have ez:List.length (acc++[44,32])+List.length z=List.length ((acc++[44,32])++z):=by simp only [length_append]
    rw [<-sQ,ez];refine ab ?_;exact ⟨rfl,rfl,_,_,Wk.ax al,(acc++[44,32])++z,a3,c3,rfl,bp.symm,rfl⟩
   ·rintro _ _ ⟨acc,a,c,rfl,ku,rfl⟩
    have hj:bx l=acc:=by
     rw [ku,<-hL,show ((y::r).map fun s=>[GV.v (sv s)]).length=(y::r).length by simp,take_length];rfl
    rw [hj] at hb hlen |-
    have bO:acc≠[]:=by
     intro h0;rw [h0] at hlen;simp at hlen
    have Wf:=Ml acc a c bO ah;refine ab ?_;refine U [0,1] (Wf) ?_;exact ao
end Go.Xg
namespace Go.Xg
open Go.RowKit Go.Xw Go.Proofs
open Go.Xp (Tok Nd T)
open Go.Sp (Src)
open Go.Im (nt ph tr hY cM fA tL)
attribute [local irreducible] GW GL GO YG GC GA aS aW
mutual
def tT:T->GV
 | .mk n l=>.box [.v (ii n.kind),.v (ii n.at_),.v (ii n.n),.v (sv n.s),ints n.kids,.sl 1 (bT l)] 0
def bT:List T->List (List GV)
 | []=>[]
 | t::r=>[tT t]::bT r
end
abbrev uT (t:T):GV:=.box [.v (ii t.n.kind),.v (ii t.n.at_),.v (ii t.n.n),.v (sv t.n.s),ints t.n.kids,.sl 1 (bT t.kids)] 0
theorem Uu (t:T):tT t=uT t:=by cases t;rw [tT];rfl
theorem jJ (l:List T):bT l=l.map fun t=>[uT t]:=by
 induction l with
 | nil=>rfl
 | cons t l ih=>rw [bT,ih,Uu];rfl
theorem p8 (l:List T):(bT l).length=l.length:=by rw [jJ];simp
theorem Hk (l:List T) (t:T):bT (l++[t])=bT l++[[uT t]]:=by rw [jJ,jJ];simp
theorem uP {l:List T} {i:Nat} {t:T} (h:l[i]?=some t):(bT l)[i]?=some [uT t]:=by rw [jJ,getElem?_map,h];rfl
def Yx:Option (T × Nat)->GV
 | none=>.tup [.Zy,.Zy,.v (.bool false)]
 | some (t,e)=>.tup [uT t,.v (ii (e:Nat)),.v (.bool true)]
theorem NX (nodes:List Nd) (hl:nodes.length<=1099511627776) (hk:∀ n∈nodes,n.kids.length<=1099511627776):∀ (f a:Nat),nodes.length - a+1<=f->a<=1099511627776 ->
  GF Tryz.prog 132 [.sl 5 (nodes.map aw),.v (ii (a:Nat))] [] (Yx (nt nodes f a)) []:=by
 intro f
 induction f with
 | zero=>intro a h;omega
 | succ f ih =>
 intro a hf ha;rw [nt]
 cases hn:nodes[a]? with
 | none =>
  have kO:nodes.length<=a:=List.getElem?_eq_none_iff.1 hn
  have hd:decide (((nodes.map aw).length:Int)<=(a:Int))=true:=by simpa using kO
  refine ai Tryz.func132 Tryz.ntmps132 ?_;refine qc ?_;exact ⟨_,iy,rfl,rfl⟩
 | some n =>
  have aq:=(List.getElem?_eq_some_iff.1 hn).1
  have hd:decide (((nodes.map aw).length:Int)<=(a:Int))=false:=by simpa using aq
  have hr:(nodes.map aw)[a]?=some (aw n):=by rw [getElem?_map,hn];rfl
  have wF:=hk n (mem_of_getElem? hn);simp only;generalize hR:ph (nt nodes f) n.kids (a+1) []=R;refine ai Tryz.func132 Tryz.ntmps132 ?_;refine GW.wk (Wk.D3 (i:=0) (o:=5) 123 1 rfl rfl) ?_
  refine GW.range (n.kids.map fun i=>[GV.v (ii i)]).length (fun k fr Γ=>∃ next acc m rows,fr=[.sl 5 (nodes.map aw),.v (ii (a:Nat)),.Zy,.Zy,.Zy,.Zy,.Zy,.loc 0 0,.v (ii (next:Nat)),.Zy,.Zy,.Zy,.Zy,.Zy,.Zy,.Zy,.Zy,.Zy,.Zy,.Zy,.Zy,.Zy,.Zy,.Zy,.Zy,.Zy,.Zy,.Zy,.Zy,.Zy,ints n.kids,.v (ii ((n.kids.map fun i=>[GV.v (ii i)]).length:Int)),.v (ii (k:Nat)),.Zy,.Zy,.Zy,.Zy,.Zy,.Zy,.Zy,.Zy,.Zy,.Zy,.Zy,.Zy,.Zy,.Zy,.Zy,.Zy,.Zy,.Zy,.Zy,.Zy,.Zy,.Zy,.Zy,.Zy,.Zy,.Zy,.Zy,.Zy,.Zy,.Zy,.Zy,.Zy,.Zy,.Zy,.Zy] /\
   Γ=[.box 149 [.v (ii n.kind),.v (ii n.at_),.v (ii n.n),.v (sv n.s),ints n.kids,.vec 1 m],.vec 123 1 0 rows]/\rows.length=m/\rows=bT acc/\m=k/\a+1<=next/\next<=nodes.length/\ph (nt nodes f) (n.kids.drop k) next acc=R) ?_ (by simpa using wF) ?_ ?_ ?_
  ·exact ⟨_,_,Wk.ax al,a+1,[],0,[],rfl,rfl,rfl,rfl,rfl,Nat.le_refl _,aq,hR⟩
  ·rintro k _ _ ⟨next,acc,m,rows,rfl,rfl,_⟩;exact ⟨rfl,rfl,rfl⟩
  ·rintro k _ _ eE ⟨next,acc,m,rows,rfl,rfl,hm,bo,rW,Gq,uu,h⟩
   have eE:k < n.kids.length:=by simpa using eE
   have cz:n.kids[k]?=some n.kids[k]:=by simp [eE]
   have zF:(n.kids.map fun i=>[GV.v (ii i)])[k]?=some [.v (ii n.kids[k])]:=by rw [getElem?_map,cz];rfl
   rw [List.drop_eq_getElem_cons eE,ph] at h;generalize n.kids[k]=z at *
   by_cases hz:z=(next:Int)
   ·rw [if_pos hz] at h;subst hz
    have U9:((next:Int) != (next:Int))=false:=by simp
    have BO:=ih next ah ah
    cases hq:nt nodes f next with
    | none =>
     rw [hq] at h BO;subst h;refine ab ?_;refine U [] (BO) ?_;refine qc ?_;exact ⟨_,iy,rfl,rfl⟩
    | some x =>
     obtain ⟨t,e⟩:=x;rw [hq] at h BO;simp only at h
     obtain ⟨s1,s2,_,_⟩:=Go.Im.za f next t e hq
     refine ab ?_;refine U [] (BO) ?_;refine dX ?_;refine ab ?_;exact ⟨rfl,rfl,_,_,Wk.ax al,e,acc++[t],_,_,rfl,rfl,by simp [hm],by rw [Hk,bo],by omega,by omega,s2,h⟩
   ·rw [if_neg hz] at h;subst h
    have U9:(z != (next:Int))=true:=by simpa using hz
    refine ab ?_;refine qc ?_;exact ⟨_,iy,rfl,rfl⟩
  ·rintro _ _ ⟨next,acc,m,rows,rfl,rfl,hm,bo,rW,Gq,uu,h⟩;rw [show n.kids.drop (n.kids.map fun i=>[GV.v (ii i)]).length=[] by simp,ph] at h;subst h;simp only;subst bo;refine aL ?_;refine GW.wk (Wk.vG (i:=0) (o:=5) (j:=1) rfl rfl rfl rfl hm) ?_
   by_cases h0:n.at_ < 0
   ·rw [if_pos h0]
    have rS:decide ((0:Int)<=n.at_)=false:=by simpa using h0
    refine ab ?_;refine GW.draw (.q 0 (.q 1 (.q 2 (.q 3 (.q 4 (.q 5 (.q 6 (.q 7 (.q 8 (.q 9 (.q 10 .nil))))))))))) (by kernel_rfl) (by kernel_rfl) ?_;refine aj ?_;refine ab ?_;rw [rS];refine GW.wk (Wk.freeze (i:=0) rfl rfl rfl (Nat.le_refl _)) ?_;refine qc ?_;exact ⟨_,iy,rfl,rfl⟩
   ·rw [if_neg h0]
    have rS:decide ((0:Int)<=n.at_)=true:=by simpa using h0
    refine ab ?_;refine GW.draw (.q 0 (.q 1 (.q 2 (.q 3 (.q 4 (.q 5 (.q 6 (.q 7 (.q 8 (.q 9 (.q 10 .nil))))))))))) (by kernel_rfl) (by kernel_rfl) ?_;refine aj ?_;refine ab ?_;rw [rS];refine GW.wk (Wk.freeze (i:=0) rfl rfl rfl (Nat.le_refl _)) ?_;refine Hq ?_;exact ⟨rfl,rfl⟩
def Ay (nodes:List Nd):Option (List T × Nat)->GV
 | none=>.tup [.Zy,.v (.bool false)]
 | some (l,e)=>.tup [.sl 1 (bT l),.v (.bool ((e:Int)==(nodes.length:Int)))]
theorem u7 (p:Src) (hl:p.nodes.length<=1099511627776) (hk:∀ n∈p.nodes,n.kids.length<=1099511627776) (hf:p.fns.length<=1099511627776) :
  GF Tryz.prog 106 [.agg (ar p)] [] (Ay p.nodes (hY p.nodes p.fns 0 [])) []:=by
 generalize hR:hY p.nodes p.fns 0 []=R;refine ai Tryz.func106 Tryz.ntmps106 ?_;refine GW.wk (Wk.A6 (t:=4) (a:=none) (c:=0) 123 1 rfl) ?_
 refine GW.range (p.fns.map au).length (fun k fr Γ=>∃ next acc m rows,fr=[.Zy,.loc 0 0,.Zy,.Zy,.vec 1 m,.v (ii (next:Nat)),.Zy,.Zy,.Zy,.Zy,.Zy,.Zy,.sl 3 (p.fns.map au),.v (ii ((p.fns.map au).length:Int)),.v (ii (k:Nat)),.Zy,.Zy,.Zy,.Zy,.Zy,.Zy,.Zy,.Zy,.Zy,.Zy,.Zy,.Zy,.Zy,.Zy,.Zy,.Zy,.Zy,.Zy,.Zy,.Zy,.Zy,.Zy,.Zy,.Zy,.Zy,.Zy,.Zy,.Zy,.Zy,.Zy,.Zy] /\
  Γ=[.box 34 (ar p),.vec 123 1 0 rows]/\rows.length=m/\rows=bT acc/\m=k/\next<=p.nodes.length/\hY p.nodes (p.fns.drop k) next acc=R) ?_ (by simpa using hf) ?_ ?_ ?_
 ·exact ⟨_,_,Wk.ax al,0,[],0,[],rfl,rfl,rfl,rfl,rfl,Nat.zero_le _,hR⟩
 ·rintro k _ _ ⟨next,acc,m,rows,rfl,rfl,_⟩;exact ⟨rfl,rfl,rfl⟩
 ·rintro k _ _ eE ⟨next,acc,m,rows,rfl,rfl,hm,bo,rW,uu,h⟩
  have eE:k < p.fns.length:=by simpa using eE
  have cz:p.fns[k]?=some p.fns[k]:=by simp [eE]
  have zF:(p.fns.map au)[k]?=some (au p.fns[k]):=by rw [getElem?_map,cz];rfl
  rw [List.drop_eq_getElem_cons eE,hY] at h;generalize p.fns[k]=fn at *
  have KA:=NX p.nodes hl hk (p.nodes.length+1) next ah ah
  unfold tr at h
  cases hq:nt p.nodes (p.nodes.length+1) next with
  | none =>
   rw [hq] at h KA;subst h;refine ab ?_;refine U [] (KA) ?_;refine EO ?_;exact ⟨_,iy,rfl,rfl⟩
  | some x =>
   obtain ⟨t,e⟩:=x;rw [hq] at h KA;simp only at h
   obtain ⟨s1,s2,_,_⟩:=Go.Im.za _ next t e hq
   by_cases hb:fn.body=(next:Int)
   ·rw [if_pos hb] at h
    have ba:(fn.body != (next:Int))=false:=by simpa using hb
    refine ab ?_;refine U [] (KA) ?_;refine dX ?_;refine ab ?_;exact ⟨rfl,rfl,_,_,(Wk.cut (n:=2) (Nat.zero_le _) rfl).trans (Wk.ax al),e,acc++[t],_,_,rfl,rfl,by simp [hm],by rw [Hk,bo],by omega,s2,h⟩
   ·rw [if_neg hb] at h;subst h
    have ba:(fn.body != (next:Int))=true:=by simpa using hb
    refine ab ?_;refine U [] (KA) ?_;refine EO ?_;exact ⟨_,iy,rfl,rfl⟩
 ·rintro _ _ ⟨next,acc,m,rows,rfl,rfl,hm,bo,rW,uu,h⟩;rw [show p.fns.drop (p.fns.map au).length=[] by simp,hY] at h;subst h;subst bo;refine aL ?_;refine GW.wk (Wk.gD (t:=4) rfl rfl rfl hm) ?_
  have RJ:p.nodes.length=(p.nodes.map aw).length:=by simp
  unfold Ay;rw [RJ];refine ab ?_;refine GW.draw (.q 0 (.q 1 (.q 2 (.q 3 (.q 4 (.q 5 (.q 6 (.q 7 .nil)))))))) (by kernel_rfl) (by kernel_rfl) ?_;refine aj ?_;exact qb
end Go.Xg
namespace Go.Xg
open Go.RowKit Go.Xw Go.Proofs
open Go.Xp (Tok Nd T bc one levels fR dI dW dm c7)
open Go.Sp
attribute [local irreducible] GW GL GO YG GC GA aS aW
structure PX where
 a:Value
 b:Value
 c:Value
 d:Value
 e:Value
abbrev bF (p:RS) (x:PX):Ob:=.box 167 [gQ p.l,.v (ii p.i),.v (ii p.e),.v (ii p.code),.v (ii p.at_),.v x.a,.v x.b,.v x.c,.v x.d,.v x.e]
theorem qo (p:RS) (k:Nat) (x:PX) (hp:p.ok) (hk:k<=1):GF Tryz.prog 180 [.loc 0 0,.v (ii (k:Nat))] [bF p x] (.agg (cW (Go.Im.tok p k))) [bF p x]:=by
 obtain ⟨jT,dD⟩:=hp;unfold Go.Im.tok
 cases ht:p.l[p.i+k]? with
 | some t =>
  have hr:=jI ht;have aq:p.i+k < p.l.length:=(List.getElem?_eq_some_iff.1 ht).1
  have hd:decide (((p.l.map cW).length:Int)<=((p.i+k:Nat):Int))=false:=by simpa using by omega
  refine ai Tryz.func180 Tryz.ntmps180 ?_;refine GW.draw (.q 0 (.q 1 (.q 2 (.q 3 (.q 4 (.q 5 (.q 6 (.q 7 (.q 8 (.q 9 (.q 10 (.q 11 .nil)))))))))))) (by kernel_rfl) (by kernel_rfl) ?_;refine aj ?_;refine ab ?_;refine GW.draw (.q 0 (.q 1 (.q 2 (.q 3 (.q 4 (.q 5 (.q 6 (.q 7 (.q 8 (.q 9 (.q 10 (.q 11 (.a 12 .nil))))))))))))) (by kernel_rfl) (by kernel_rfl) ?_;refine aj ?_;exact jr
 | none =>
  have aq:p.l.length<=p.i+k:=List.getElem?_eq_none_iff.1 ht
  have hd:decide (((p.l.map cW).length:Int)<=((p.i+k:Nat):Int))=true:=by simpa using by omega
  refine ai Tryz.func180 Tryz.ntmps180 ?_;refine GW.draw (.q 0 (.q 1 (.q 2 (.q 3 (.q 4 (.q 5 (.q 6 (.q 7 (.q 8 (.q 9 (.q 10 (.q 11 .nil)))))))))))) (by kernel_rfl) (by kernel_rfl) ?_;refine aj ?_;exact jr
theorem Da (p:RS) (c a:Int) (x:PX):GF Tryz.prog 210 [.loc 0 0,.v (ii c),.v (ii a)] [bF p x] (.tup []) [bF (p.fail c a) x]:=by
 unfold RS.fail
 by_cases h:p.code=0
 ·have h':(p.code==0)=true:=by simpa using h
  rw [if_pos h];refine ai Tryz.func210 Tryz.ntmps210 ?_;exact eX
 ·have h':(p.code==0)=false:=by simpa using h
  rw [if_neg h];refine ai Tryz.func210 Tryz.ntmps210 ?_;exact eX
theorem xI (p:RS) (x:PX) (hp:p.ok):GF Tryz.prog 181 [.loc 0 0] [bF p x] (.tup []) [bF (Go.Im.jw p) x]:=by
 have ht:=qo p 0 x hp (by decide);unfold Go.Im.jw;generalize Go.Im.tok p 0=t at *;have hf:=Da p 7 t.at_ x;refine ai Tryz.func181 Tryz.ntmps181 ?_;refine U [0] (ht) ?_;refine U [0] (hf) ?_;exact eX
theorem vd (p:RS) (d:Nat) (x:PX) (hp:p.ok):GF Tryz.prog 212 [.loc 0 0,.v (ii (d:Nat))] [bF p x] (.v (.bool ((Go.Im.bG p d).code==0))) [bF (Go.Im.bG p d) x]:=by
 have ht:=qo p 0 x hp (by decide);unfold Go.Im.bG;generalize Go.Im.tok p 0=t at *
 by_cases h:d > 60
 ·have h':decide ((60:Int) < (d:Int))=true:=by simpa using by omega
  rw [if_pos h];have hf:=Da p 9 t.at_ x;generalize p.fail 9 t.at_=q at *;refine ai Tryz.func212 Tryz.ntmps212 ?_;refine U [0] (ht) ?_;refine U [0] (hf) ?_;exact ao
 ·have h':decide ((60:Int) < (d:Int))=false:=by simpa using by omega
  rw [if_neg h];refine ai Tryz.func212 Tryz.ntmps212 ?_;exact ao
theorem jk (p:RS) (k:Nat) (s:ae) (x:PX) (hp:p.ok) (hk:k<=1):GF Tryz.prog 178 [.loc 0 0,.v (ii (k:Nat)),.v (sv s)] [bF p x] (.v (.bool (Go.Im.is p k s))) [bF p x]:=by
 have ht:=qo p k x hp hk;unfold Go.Im.is;generalize Go.Im.tok p k=t at *
 cases h:(t.kind==3) with
 | true =>
  rw [Bool.true_and];refine ai Tryz.func178 Tryz.ntmps178 ?_;refine U [0] (ht) ?_;exact ao
 | false =>
  rw [Bool.false_and];refine ai Tryz.func178 Tryz.ntmps178 ?_;refine U [0] (ht) ?_;exact ao
theorem pU (p:RS) (x:PX) (hp:p.ok):GF Tryz.prog 179 [.loc 0 0] [bF p x] (.v (sv (Go.Im.tok p 0).s)) [bF (Go.Im.bf p) x]:=by
 have ht:=qo p 0 x hp (by decide);have hw:=xI p x hp;have RR:=hp.2;have BR:=hp.1;unfold Go.Im.bf;generalize Go.Im.tok p 0=t at *;have hf:=Da p 8 t.at_ x
 by_cases hc:p.code=0
 ·have dj:(p.code != 0)=false:=by simpa using hc
  rw [if_pos hc]
  by_cases h2:t.kind=2
  ·have pk:(t.kind != 2)=false:=by simpa using h2
   rw [if_pos h2]
   by_cases hl:t.s.length > 12
   ·have iG:decide ((12:Int) < (t.s.length:Int))=true:=by simpa using by omega
    rw [if_pos hl];refine ai Tryz.func179 Tryz.ntmps179 ?_;refine U [0] (ht) ?_;refine U [0] (hf) ?_;exact ao
   ·have iG:decide ((12:Int) < (t.s.length:Int))=false:=by simpa using by omega
    rw [if_neg hl];refine ai Tryz.func179 Tryz.ntmps179 ?_;refine U [0] (ht) ?_;exact ao
  ·have pk:(t.kind != 2)=true:=by simpa using h2
   rw [if_neg h2];refine ai Tryz.func179 Tryz.ntmps179 ?_;refine U [0] (ht) ?_;refine U [0] (hw) ?_;exact ao
 ·have dj:(p.code != 0)=true:=by simpa using hc
  rw [if_neg hc];refine ai Tryz.func179 Tryz.ntmps179 ?_;refine U [0] (ht) ?_;exact ao
theorem eA (p:RS) (s:ae) (x:PX) (hp:p.ok):GF Tryz.prog 182 [.loc 0 0,.sl 1 [[.v (sv s)]]] [bF p x] (.tup []) [bF (Go.Im.want p s) x]:=by
 have hi:=jk p 0 s x hp (by decide);have hw:=xI p x hp;have RR:=hp.2;have BR:=hp.1;unfold Go.Im.want;generalize Go.Im.jw p=q at *;have hr:([[GV.v (sv s)]]:List (List GV))[0]?=some [.v (sv s)]:=rfl;refine ai Tryz.func182 Tryz.ntmps182 ?_
 by_cases hc:p.code=0
 ·have dj:(p.code != 0)=false:=by simpa using hc
  rw [if_pos hc]
  cases h:Go.Im.is p 0 s with
  | true =>
   rw [h] at hi;rw [if_pos rfl];refine GW.range 1 (fun k fr Γ=>fr=[.loc 0 0,.Zy,.Zy,.Zy,.Zy,.Zy,.sl 1 [[.v (sv s)]],.v (ii ((1:Nat):Int)),.v (ii (k:Nat)),.Zy,.Zy,.Zy,.Zy,.Zy,.Zy,.Zy,.Zy,.Zy,.Zy,.Zy,.Zy,.Zy,.Zy,.Zy,.Zy,.Zy,.Zy,.Zy,.Zy,.Zy,.Zy]/\((k=0/\Γ=[bF p x])\/(1<=k/\Γ=[bF p.next x]))) ?_ (by decide) ?_ ?_ ?_
   ·exact ⟨_,_,Wk.ax al,rfl,.inl ⟨rfl,rfl⟩⟩
   ·rintro k _ _ ⟨rfl,_⟩;exact ⟨rfl,rfl,rfl⟩
   ·rintro k _ _ hk ⟨rfl,⟨rfl,rfl⟩ | ⟨h1,_⟩⟩
    ·refine ab ?_;refine U [0] (hi) ?_;exact ⟨rfl,rfl,_,_,Wk.ax al,rfl,.inr ⟨Nat.le_refl _,rfl⟩⟩
    ·omega
   ·rintro _ _ ⟨rfl,⟨h1,_⟩ | ⟨_,rfl⟩⟩
    ·cases h1
    ·exact gS
  | false =>
   rw [h] at hi;rw [if_neg (by decide)];refine GW.range 1 (fun k fr Γ=>fr=[.loc 0 0,.Zy,.Zy,.Zy,.Zy,.Zy,.sl 1 [[.v (sv s)]],.v (ii ((1:Nat):Int)),.v (ii (k:Nat)),.Zy,.Zy,.Zy,.Zy,.Zy,.Zy,.Zy,.Zy,.Zy,.Zy,.Zy,.Zy,.Zy,.Zy,.Zy,.Zy,.Zy,.Zy,.Zy,.Zy,.Zy,.Zy]/\k=0/\Γ=[bF p x]) ?_ (by decide) ?_ ?_ ?_
   ·exact ⟨_,_,Wk.ax al,rfl,rfl,rfl⟩
   ·rintro k _ _ ⟨rfl,_⟩;exact ⟨rfl,rfl,rfl⟩
   ·rintro k _ _ hk ⟨rfl,rfl,rfl⟩;refine ab ?_;refine U [0] (hi) ?_;refine U [0] (hw) ?_;exact eX
   ·rintro _ _ ⟨rfl,h1,_⟩;cases h1
 ·have dj:(p.code != 0)=true:=by simpa using hc
  rw [if_neg hc];refine GW.range 1 (fun k fr Γ=>fr=[.loc 0 0,.Zy,.Zy,.Zy,.Zy,.Zy,.sl 1 [[.v (sv s)]],.v (ii ((1:Nat):Int)),.v (ii (k:Nat)),.Zy,.Zy,.Zy,.Zy,.Zy,.Zy,.Zy,.Zy,.Zy,.Zy,.Zy,.Zy,.Zy,.Zy,.Zy,.Zy,.Zy,.Zy,.Zy,.Zy,.Zy,.Zy]/\k=0/\Γ=[bF p x]) ?_ (by decide) ?_ ?_ ?_
  ·exact ⟨_,_,Wk.ax al,rfl,rfl,rfl⟩
  ·rintro k _ _ ⟨rfl,_⟩;exact ⟨rfl,rfl,rfl⟩
  ·rintro k _ _ hk ⟨rfl,rfl,rfl⟩;exact gS
  ·rintro _ _ ⟨rfl,h1,_⟩;cases h1
end Go.Xg
namespace Go.Xg
open Go.RowKit Go.Xw Go.Proofs
open Go.Xp (Tok Nd T bc one levels)
open Go.Sp
attribute [local irreducible] GW GL GO YG GC GA aS aW
mutual
def pT:T->GV
 | .mk n l=>.box [.v (ii n.kind),.v (ii n.at_),.v (ii n.n),.v (sv n.s),.v (.slice none 0 0),.sl 1 (jB l)] 0
def jB:List T->List (List GV)
 | []=>[]
 | t::r=>[pT t]::jB r
end
abbrev qT (t:T):GV:=.box [.v (ii t.n.kind),.v (ii t.n.at_),.v (ii t.n.n),.v (sv t.n.s),.v (.slice none 0 0),.sl 1 (jB t.kids)] 0
theorem Uq (t:T):pT t=qT t:=by cases t;rw [pT];rfl
theorem fL (l:List T):jB l=l.map fun t=>[qT t]:=by
 induction l with
 | nil=>rfl
 | cons t l ih=>rw [jB,ih,Uq];rfl
theorem lT (l:List T):(jB l).length=l.length:=by rw [fL];simp
theorem uK (l:List T) (t:T):jB (l++[t])=jB l++[[qT t]]:=by rw [fL,fL];simp
theorem Ab {l:List T} {i:Nat} {t:T} (h:l[i]?=some t):(jB l)[i]?=some [qT t]:=by rw [fL,getElem?_map,h];rfl
theorem Lj (k a:Int) (s:ae) (rows:List (List GV)):GF Tryz.prog 211 [.v (ii k),.v (ii a),.v (sv s),.sl 1 rows] [] (.loc 0 0) [.box 149 [.v (ii k),.v (ii a),.v (ii 0),.v (sv s),.v (.slice none 0 0),.sl 1 rows]]:=by
 refine ai Tryz.func211 Tryz.ntmps211 ?_;refine GW.wk (Wk.cells 0 rfl (ds:=[.v (ii k),.v (ii a),.v (ii 0),.v (sv s),.v (.slice none 0 0),.sl 1 rows]) iy) ?_;refine GW.ret ?_;refine pM (n:=1) rfl (by first | exact .inr rfl | exact .inl rfl) rfl (Nat.zero_le _) rfl rfl ?_;exact ⟨rfl,rfl⟩
theorem eg (k a:Int) (s:ae) (l:List T) (rows:List (List GV)) (h:jB l=rows):GF Tryz.prog 211 [.v (ii k),.v (ii a),.v (sv s),.sl 1 rows] [] (qT (one k a s l)) []:=by
 subst h;refine ai Tryz.func211 Tryz.ntmps211 ?_;refine GW.wk (Wk.cells 0 rfl (ds:=[.v (ii k),.v (ii a),.v (ii 0),.v (sv s),.v (.slice none 0 0),.sl 1 (jB l)]) iy) ?_;refine GW.wk (Wk.freeze (i:=0) rfl rfl rfl (Nat.zero_le _)) ?_;exact ao
theorem sn:GF Tryz.prog 167 [] [] (.sl 1 (levels.map fun l=>[strs l])) []:=by
 refine ai Tryz.func167 Tryz.ntmps167 ?_
 iterate 10 (refine bJ ?_)
 exact av
end Go.Xg
namespace Go.Xg
open Go.RowKit Go.Xw Go.Proofs
open Go.Xp (Tok Nd T levels ca bx aD ay)
open Go.Im (nb qF sP kG cD fj sG iY fx oc oZ)
attribute [local irreducible] GW GL GO YG GC GA aS aW
theorem decDigits_eq (n:Nat):Go.Lib.decDigits n=ca n:=by
 induction n using Nat.strongRecOn with
 | _ n ih =>
  unfold Go.Lib.decDigits ca;split
  ·rfl
  ·rw [ih (n / 10) ah]
theorem PO (n:Int):Go.Lib.itoa n=nb n:=by
 unfold Go.Lib.itoa nb;rw [decDigits_eq,decDigits_eq]
theorem Jg (n:Int) (h0 : -9223372036854775808<=n) (h1:n<=9223372036854775807):GF Tryz.prog 134 [.v (ii n)] [] (.v (sv (nb n))) []:=by
 refine GF.So (vs:=[ii n]) fun K β w ht hf=>?_
 obtain ⟨E,z,kE⟩:=rG.all ht hf ht.pow (zs:=uN.map fun z=>Value.int .u64 z) (by decide) (fun m o x hx=>by
  rw [getElem?_map] at hx;unfold vW;rw [if_neg (by decide),if_pos rfl]
  cases hs:uN[o]? with
  | none=>rw [hs] at hx;cases hx
  | some y=>rw [hs] at hx;cases hx;rfl)
 have yL:Go.Lib.TabIs Tryz.prog w "internal/strconv.uint64pow10" .u64 Go.Lib.pow10Tab:=by
  unfold Go.Lib.TabIs World.var?;rw [show Tryz.prog.globalNamed "internal/strconv.uint64pow10" = some 1 by kernel_rfl,show Go.Lib.pow10Tab=uN by decide];simp only [Option.bind_some,kE]
 refine nG.B9 (Calls.mono (Tryz.strconv_Itoa n h0 h1 w yL) ?_);rintro e w' ⟨h2,k,os,h3⟩;refine ⟨_,h2,by rw [PO];rfl,?_⟩;subst h3;refine ⟨rfl,rfl,rfl,by simp [Go.Sort.grow,World.drewN],fun j hj _=>?_⟩;simp only [Go.Sort.grow,World.drewN];rw [Array.getElem?_append_left hj]
theorem Nn (l:List ae) (s:ae) (hl:l.length<=1099511627776):GF Tryz.prog 168 [strs l,.box [.v (sv s)] 0] [] (.v (.bool (l.contains s))) []:=by
 have h:=iH l s hl;generalize l.contains s=b at *;refine ai Tryz.func168 Tryz.ntmps168 ?_;refine U [] (h) ?_;exact ao
def A0 (ls:List (List ae)) (s:ae):Int:=match ls.findIdx? (fun l=>l.contains s) with | some i=>(i:Int) | none => -1
theorem E9 (ls:List (List ae)) (s:ae) (hn:ls.length<=1099511627776) (hl:∀ l∈ls,l.length<=1099511627776) :
  GF Tryz.prog 166 [.sl 1 (ls.map fun l=>[strs l]),.fn (.func 168) [] [.box [.v (sv s)] 0]] [] (.v (ii (A0 ls s))) []:=by
 have dq:(ls.map fun l=>[strs l]).length=ls.length:=by simp
 refine ai Tryz.func166 Tryz.ntmps166 ?_;refine GW.range (ls.map fun l=>[strs l]).length (fun k fr Γ=>fr=[.sl 1 (ls.map fun l=>[strs l]),.fn (.func 168) [] [.box [.v (sv s)] 0],.Zy,.Zy,.Zy,.Zy,.Zy,.v (ii ((ls.map fun l=>[strs l]).length:Int)),.v (ii (k:Nat)),.Zy,.Zy,.Zy,.Zy,.Zy,.Zy,.Zy,.Zy,.Zy,.Zy]/\Γ=[]/\(ls.take k).all (fun l=>!(l.contains s))=true) ?_ ah ?_ ?_ ?_
 ·exact ⟨_,_,Wk.ax al,rfl,rfl,rfl⟩
 ·rintro k _ _ ⟨rfl,rfl,_⟩;exact ⟨rfl,rfl,rfl⟩
 ·rintro k _ _ aq ⟨rfl,rfl,aM⟩;rw [dq] at aq
  have cz:ls[k]?=some ls[k]:=by simp [aq]
  have hr:(ls.map fun l=>[strs l])[k]?=some [strs ls[k]]:=by rw [getElem?_map,cz];rfl
  have hc:=Nn ls[k] s (hl _ (getElem_mem aq))
  have bp:(ls.take (k+1)).all (fun l=>!(l.contains s))=((ls.take k).all (fun l=>!(l.contains s))&&!(ls[k].contains s)):=by rw [take_add_one,cz,List.all_append];simp
  have x5:ls[k].contains s=true->A0 ls s=(k:Int):=fun h0=>by
   have:ls.findIdx? (fun l=>l.contains s)=some k:=by
    rw [List.findIdx?_eq_some_iff_getElem];refine ⟨aq,h0,fun j hj=>?_⟩;rw [all_eq_true] at aM;have:=aM ls[j] (by rw [List.mem_take_iff_getElem];exact ⟨j,by omega,rfl⟩);simpa using this
   unfold A0;rw [this]
  generalize ls[k]=l at *
  cases hb:l.contains s with
  | true =>
   rw [hb] at hc;rw [x5 hb];refine ab ?_;refine mR [] (hc) ?_;exact av
  | false =>
   rw [hb] at hc bp;refine ab ?_;refine mR [] (hc) ?_;refine ab ?_;exact ⟨rfl,rfl,_,_,Wk.ax al,rfl,rfl,by rw [bp,aM];rfl⟩
 ·rintro _ _ ⟨rfl,rfl,aM⟩;rw [dq,take_length] at aM
  have:ls.findIdx? (fun l=>l.contains s)=none:=by
   rw [List.findIdx?_eq_none_iff];intro x hx;rw [all_eq_true] at aM;simpa using aM x hx
  unfold A0;rw [this];exact av
theorem B4 (s:ae):GF Tryz.prog 139 [.v (sv s)] [] (.v (ii (qF s))) []:=by
 have h1:=sn;have h2:=E9 levels s (by decide) (by decide);rw [show qF s=A0 levels s from rfl];generalize A0 levels s=z at *;generalize levels=ls at *;refine ai Tryz.func139 Tryz.ntmps139 ?_;refine GL.wk (Wk.freeze (i:=0) rfl rfl rfl (Nat.le_refl _)) ?_;refine GN (by simp only [my,lY];rfl) ?_;refine U [] (h1) ?_;refine U [] (h2) ?_;exact ao
end Go.Xg
namespace Go.Xg
open Go.RowKit Go.Xw Go.Proofs
open Go.Xp (Tok Nd T levels ca bx aD ay)
open Go.Im (nb qF sP kG cD fj sG iY fx oc oZ fA tL cM)
attribute [local irreducible] GW GL GO YG GC GA aS aW
theorem K8 (t:T) (z:Int):GF Tryz.prog 140 [uT t,.v (ii z)] [] (.v (.bool (kG t z))) []:=by
 have h:=B4 t.n.s;unfold kG
 cases hk:(t.n.kind==6) with
 | true =>
  generalize qF t.n.s=y at *;refine ai Tryz.func140 Tryz.ntmps140 ?_;refine U [] (h) ?_;exact ao
 | false =>
  refine ai Tryz.func140 Tryz.ntmps140 ?_;exact ao
theorem tF (t:T) (b:Bool) (x:ae) (hx:x.length<=1099511627776) (h:GF Tryz.prog 111 [uT t] [] (.v (sv x)) []) :
  GF Tryz.prog 138 [uT t,.v (.bool b)] [] (.v (sv (sP b x))) []:=by
 unfold sP
 cases b with
 | true =>
  refine ai Tryz.func138 Tryz.ntmps138 ?_;refine U [] (h) ?_;exact ao
 | false =>
  refine ai Tryz.func138 Tryz.ntmps138 ?_;refine U [] (h) ?_;exact ao
theorem Nq (ex:FuncId) [hf:aB Tryz.prog ex] (tx:T->ae) (l:List T) (h:∀ t∈l,GF Tryz.prog ex [uT t] [] (.v (sv (tx t))) []) (hj:(bx (l.map tx)).length<=1099511627776) (hl:l.length<=1099511627776) :
  GF Tryz.prog 137 [.sl 1 (bT l),.v (.func (.func ex) #[] #[])] [] (.v (sv (bx (l.map tx)))) []:=by
 have ow:=p8 l;have hJ:=Jh (l.map tx) hj (by simpa using hl);refine ai Tryz.func137 Tryz.ntmps137 ?_;refine GW.wk (Wk.A6 (t:=5) (a:=none) (c:=0) 9 1 rfl) ?_;refine GW.range (bT l).length (fun k fr Γ=>∃ m rows,fr=[.sl 1 (bT l),.v (.func (.func ex) #[] #[]),.Zy,.Zy,.Zy,.vec 0 m,.Zy,.Zy,.sl 1 (bT l),.v (ii ((bT l).length:Int)),.v (ii (k:Nat)),.Zy,.Zy,.Zy,.Zy,.Zy,.Zy,.Zy,.Zy,.Zy,.Zy,.Zy,.Zy]/\Γ=[.vec 9 1 0 rows]/\rows.length=m/\rows=((l.take k).map tx).map (fun s=>[GV.v (sv s)])/\m=k) ?_ ah ?_ ?_ ?_
 ·exact ⟨_,_,Wk.ax al,0,[],rfl,rfl,rfl,rfl,rfl⟩
 ·rintro k _ _ ⟨m,rows,rfl,rfl,_⟩;exact ⟨rfl,rfl,rfl⟩
 ·rintro k _ _ aq ⟨m,rows,rfl,rfl,hm,bo,rW⟩;rw [ow] at aq
  have cz:l[k]?=some l[k]:=by simp [aq]
  have hr:=uP cz;have ht:=h l[k] (getElem_mem aq)
  have bp:((l.take (k+1)).map tx).map (fun s=>[GV.v (sv s)])=rows++[[.v (sv (tx l[k]))]]:=by rw [take_add_one,cz,bo,map_append,map_append];rfl
  generalize l[k]=t at *;refine ab ?_;refine gR [] (ht) ?_;refine ab ?_;refine dX ?_;refine ab ?_;exact ⟨rfl,rfl,_,_,Wk.ax al,_,_,rfl,rfl,by simp [hm],bp.symm,by omega⟩
 ·rintro _ _ ⟨m,rows,rfl,rfl,hm,bo,rW⟩;rw [ow,take_length] at bo;refine aL ?_;refine GW.wk (Wk.gD (t:=5) rfl rfl rfl hm) ?_;subst bo;refine ab ?_;refine U [] (hJ) ?_;exact ao
theorem TP {t:T} (h:cM t.n.kind t.kids.length=true) (hk:t.n.kind=3\/t.n.kind=5):∃ a,t.kids=[a]:=by
 have:t.kids.length=1:=by
  unfold cM at h
  rcases hk with hk | hk <;> rw [hk] at h <;> simp at h <;> omega
 match hl:t.kids,this with
 | [a],_=>exact ⟨a,rfl⟩
theorem TQ {t:T} (h:cM t.n.kind t.kids.length=true) (hk:t.n.kind=6):∃ a b,t.kids=[a,b]:=by
 have:t.kids.length=2:=by
  unfold cM at h;rw [hk] at h;simp at h;omega
 match hl:t.kids,this with
 | [a,b],_=>exact ⟨a,b,rfl⟩
theorem QB:∀ (N:Nat) (t:T),aD t<=N->fA t=true->oc t->iY t<=1099511627776->GF Tryz.prog 111 [uT t] [] (.v (sv (cD t))) []:=by
 intro N
 induction N with
 | zero=>intro t h;rw [Go.Xp.eh] at h;omega
 | succ N ih =>
 intro t hN hk hn hw;have hlen:=Go.Im.uX _ t (Nat.le_refl _) hn;rw [Go.Xp.eh] at hN;rw [Go.Im.wN,Bool.and_eq_true,Go.Im.sd,all_eq_true] at hk;rw [Go.Im.pX] at hn
 have jD:∀ a∈t.kids,GF Tryz.prog 111 [uT a] [] (.v (sv (cD a))) []/\(cD a).length<=1099511627776:=fun a ha=>by
  have h1:=Go.Im.sI ha;rw [Go.Im.nV] at hw;have h3:=Go.Im.iV hn.2 ha
  have h2:aD a<=ay t.kids:=by
   have:∀ (l:List T),a∈l->aD a<=ay l:=by
    intro l
    induction l with
    | nil=>intro h;cases h
    | cons b l ih2 =>
     intro h;rw [ay]
     rcases List.mem_cons.1 h with rfl | h
     ·omega
     ·have:=ih2 h;omega
   exact this _ ha
  have h4:=Go.Im.uX _ a (Nat.le_refl _) h3;exact ⟨ih a ah (hk.2 a ha) h3 ah,by omega⟩
 rw [Go.Im.LL] at hlen |-;unfold sG at hlen |-;have mC:=hk.1;have UO:=@TP t mC;have VW:=@TQ t mC;have RI:=Jg t.n.n hn.1.1 hn.1.2;have Gp:=B4 t.n.s
 have eE:t.kids.length<=1099511627776:=by
  have:=Go.Im.Nk t.kids;rw [Go.Im.nV] at hw;omega
 have CI:=fun hj=>Nq 111 cD t.kids (fun a ha=>(jD a ha).1) hj eE
 rw [<-Go.Im.Bj] at CI
 have r6:t.n.s.length<=1099511627776:=by rw [Go.Im.nV] at hw;omega
 have OE:(bx (fj t.kids)).length<=1099511627776:=by
  have h1:=Go.Im.yQ (fj t.kids)
  have h2:((fj t.kids).map fun y=>y.length+2).sum<=fx t.kids:=by
   have:∀ (l:List T),oZ l->((fj l).map fun y=>y.length+2).sum<=fx l:=by
    intro l
    induction l with
    | nil=>intro _;simp [fj]
    | cons a l ih2 =>
     intro h;rw [oZ] at h;have h1:=Go.Im.uX _ a (Nat.le_refl _) h.1;have h2:=ih2 h.2;rw [fj,fx,List.map_cons,sum_cons];omega
   exact this _ hn.2
  rw [Go.Im.nV] at hw;omega
 have CI:=CI OE;clear OE;unfold uT;generalize jy:t.n.kind=kd at *
 by_cases h1:kd=1
 ·subst h1
  have f1:((1:Int)==1)=true:=by decide
  rw [if_pos rfl];refine ai Tryz.func111 Tryz.ntmps111 ?_;refine U [] (RI) ?_;exact ao
 rw [if_neg h1] at hlen |-
 have g1:(kd==1)=false:=by simpa using h1
 by_cases h3:kd=3
 ·subst h3
  have f1:((3:Int)==1)=false:=by decide
  have f3:((3:Int)==3)=true:=by decide
  rw [if_pos rfl] at hlen |-;obtain ⟨a,ha⟩:=UO (.inl rfl);rw [ha] at jD hlen |-;obtain ⟨c1,c2⟩:=jD a (List.mem_singleton.2 rfl)
  have hr:(bT [a])[0]?=some [uT a]:=by rw [jJ];rfl
  simp only [fj,getD_cons_zero] at hlen |-;generalize bT [a]=rows at *;generalize cD a=x at *;refine ai Tryz.func111 Tryz.ntmps111 ?_;refine GW.draw (.q 0 (.q 1 (.q 2 (.q 3 (.q 4 (.q 5 (.q 6 (.q 7 (.q 8 (.q 9 (.q 10 (.q 11 (.a 12 (.q 13 (.q 14 (.q 15 .nil)))))))))))))))) (by kernel_rfl) (by kernel_rfl) ?_;refine aj ?_;refine aC [] (c1) ?_;exact av
 rw [if_neg h3] at hlen |-
 have g3:(kd==3)=false:=by simpa using h3
 by_cases h4:kd=4
 ·subst h4
  have f1:((4:Int)==1)=false:=by decide
  have f3:((4:Int)==3)=false:=by decide
  have f4:((4:Int)==4)=true:=by decide
  rw [if_pos rfl] at hlen |-;generalize bT t.kids=rows at *;generalize bx (fj t.kids)=x at *;simp only [length_append,length_cons,length_nil] at hlen;refine ai Tryz.func111 Tryz.ntmps111 ?_;refine GW.draw (.q 0 (.q 1 (.q 2 (.q 3 (.q 4 (.q 5 (.q 6 (.q 7 (.q 8 (.q 9 (.a 10 (.q 11 (.q 12 (.q 13 .nil)))))))))))))) (by kernel_rfl) (by kernel_rfl) ?_;refine aj ?_;refine aC [] (CI) ?_;exact av
 rw [if_neg h4] at hlen |-
 have g4:(kd==4)=false:=by simpa using h4
 by_cases h5:kd=5
 ·subst h5
  have f1:((5:Int)==1)=false:=by decide
  have f3:((5:Int)==3)=false:=by decide
  have f4:((5:Int)==4)=false:=by decide
  have f5:((5:Int)==5)=true:=by decide
  rw [if_pos rfl] at hlen |-;obtain ⟨a,ha⟩:=UO (.inr rfl);rw [ha] at jD hlen |-;obtain ⟨c1,c2⟩:=jD a (List.mem_singleton.2 rfl)
  have hr:(bT [a])[0]?=some [uT a]:=by rw [jJ];rfl
  simp only [fj,getD_cons_zero] at hlen |-;have Rq:=tF a (a.n.kind==6) (cD a) c2 c1;have me:=Go.Im.xg (a.n.kind==6) (cD a);generalize bT [a]=rows at *;generalize X1:sP (a.n.kind==6) (cD a)=x at *;refine ai Tryz.func111 Tryz.ntmps111 ?_;refine GW.draw (.q 0 (.q 1 (.q 2 (.q 3 (.q 4 (.q 5 (.q 6 (.q 7 (.q 8 (.q 9 (.q 10 (.q 11 (.q 12 (.q 13 (.q 14 (.q 15 (.q 16 (.q 17 (.q 18 (.q 19 (.q 20 (.q 21 (.q 22 (.a 23 (.q 24 (.q 25 .nil)))))))))))))))))))))))))) (by kernel_rfl) (by kernel_rfl) ?_;refine aj ?_;refine aC [] (Rq) ?_;exact av
 rw [if_neg h5] at hlen |-
 have g5:(kd==5)=false:=by simpa using h5
 by_cases h6:kd=6
 ·subst h6
  have f1:((6:Int)==1)=false:=by decide
  have f3:((6:Int)==3)=false:=by decide
  have f4:((6:Int)==4)=false:=by decide
  have f5:((6:Int)==5)=false:=by decide
  have f6:((6:Int)==6)=true:=by decide
  rw [if_pos rfl] at hlen |-;obtain ⟨a,b,ha⟩:=VW rfl;rw [ha] at jD hlen |-;obtain ⟨c1,c2⟩:=jD a (List.mem_cons_self);obtain ⟨d1,d2⟩:=jD b (List.mem_cons_of_mem _ List.mem_cons_self)
  have hr:(bT [a,b])[0]?=some [uT a]:=by rw [jJ];rfl
  have gg:(bT [a,b])[1]?=some [uT b]:=by rw [jJ];rfl
  simp only [fj,getD_cons_zero,getD_cons_succ] at hlen |-
  have YR : -1<=qF t.n.s/\qF t.n.s<=9:=by
   unfold qF
   cases hf:levels.findIdx? (fun l=>l.contains t.n.s) with
   | none=>simp
   | some i =>
    rw [List.findIdx?_eq_some_iff_getElem] at hf;have:=hf.1
    have h9:levels.length=9:=by decide
    simp only;omega
  generalize qF t.n.s=lv at *;have eP:=K8 a lv;have jR:=K8 b (lv+1);have Rq:=tF a (kG a lv) (cD a) c2 c1;have VI:=tF b (kG b (lv+1)) (cD b) d2 d1;generalize bT [a,b]=rows at *;generalize X1:sP (kG a lv) (cD a)=x at *;generalize Zr:sP (kG b (lv+1)) (cD b)=y at *;simp only [length_append,length_cons,length_nil] at hlen;refine ai Tryz.func111 Tryz.ntmps111 ?_;refine U [] (Gp) ?_;refine GW.draw (.q 0 (.q 1 (.q 2 (.q 3 (.q 4 (.q 5 (.q 6 (.q 7 (.q 8 (.q 9 (.q 10 (.q 11 (.q 12 (.q 13 (.q 17 (.q 18 (.q 19 (.q 20 (.q 21 (.q 24 (.q 25 (.q 26 (.q 27 (.q 28 (.q 29 (.q 30 (.q 31 (.q 32 (.q 33 (.q 34 (.q 35 (.q 36 (.q 37 (.q 38 (.a 14 (.a 15 (.q 16 (.q 22 (.q 23 (.a 39 (.a 40 (.q 41 (.q 42 .nil))))))))))))))))))))))))))))))))))))))))))) (by kernel_rfl) (by kernel_rfl) ?_;refine aj ?_;refine xc [] (eP) ?_;refine aj ?_;refine aC [] (Rq) ?_;refine xc [] (jR) ?_;refine aj ?_;refine aC [] (VI) ?_;exact av
 rw [if_neg h6]
 have g6:(kd==6)=false:=by simpa using h6
 refine ai Tryz.func111 Tryz.ntmps111 ?_;exact ao
end Go.Xg
set_option maxHeartbeats 2000000
namespace Go.Xg
open Go.RowKit Go.Xw Go.Proofs
open Go.Xp (Tok Nd T levels ca bx aD ay)
open Go.Im
attribute [local irreducible] GW GL GO YG GC GA aS aW
abbrev gU (f:FuncId):Value:=.func (.func f) #[] #[]
theorem MZ (l:List ae) (d:Nat) (hb:(fb l d).length<=1099511627776) (hl:l.length<=1099511627776):GF Tryz.prog 112 [strs l,.v (ii (d:Nat))] [] (.v (sv (fb l d))) []:=by
 have dq:(l.map fun s=>[GV.v (sv s)]).length=l.length:=by simp
 have Gl:=rK l [123,32];unfold fb at hb |-;rw [length_append,Gl] at hb;refine ai Tryz.func112 Tryz.ntmps112 ?_;refine GW.range (l.map fun s=>[GV.v (sv s)]).length (fun k fr Γ=>fr=[strs l,.Zy,.Zy,.Zy,.Zy,.v (sv (qO [123,32] (l.take k))),.Zy,.Zy,strs l,.v (ii ((l.map fun s=>[GV.v (sv s)]).length:Int)),.v (ii (k:Nat)),.Zy,.Zy,.Zy,.Zy,.Zy,.Zy,.Zy,.Zy,.Zy,.Zy]/\Γ=[]) ?_ ah ?_ ?_ ?_
 ·exact ⟨_,_,Wk.ax al,rfl,rfl⟩
 ·rintro k _ _ ⟨rfl,rfl⟩;exact ⟨rfl,rfl,rfl⟩
 ·rintro k _ _ aq ⟨rfl,rfl⟩;rw [dq] at aq
  have cz:l[k]?=some l[k]:=by simp [aq]
  have zF:(l.map fun s=>[GV.v (sv s)])[k]?=some [.v (sv l[k])]:=by rw [getElem?_map,cz];rfl
  have h1:=rK (l.take (k+1)) [123,32];have h2:=LH l (k+1)
  have hz:jF (l.take (k+1))=jF (l.take k)+(l[k].length+1):=by rw [take_add_one,cz,Ey];simp [jF]
  have h3:=rK (l.take k) [123,32];rw [show l.take (k+1)=l.take k++[l[k]] by rw [take_add_one,cz];rfl,Jy] at |-;generalize l[k]=z at *;generalize qO [123,32] (l.take k)=acc at *;simp only [length_cons,length_nil] at h3 hb
  have YJ:acc.length+z.length+3<=1099511627777:=by omega
  refine ab ?_;exact ⟨rfl,rfl,_,_,Wk.ax al,rfl,rfl⟩
 ·rintro _ _ ⟨rfl,rfl⟩;rw [dq,take_length];generalize qO [123,32] l=acc at *;simp only [length_append,length_cons,length_nil] at Gl hb;exact av
theorem Uc (ex bk:FuncId) [hf:aB Tryz.prog ex] (tx:T->ae) (t a:T) (k:Nat) (hk:t.kids[k]?=some a) (h:GF Tryz.prog ex [uT a] [] (.v (sv (tx a))) []) :
  GF Tryz.prog 204 [.v (ii (k:Nat)),.box [.v (gU ex),.v (gU bk)] 0,.box [uT t] 0] [] (.v (sv (tx a))) []:=by
 have hr:=uP hk;generalize tx a=x at *;refine ai Tryz.func204 Tryz.ntmps204 ?_;refine GW.draw (.q 0 (.q 1 (.q 2 (.q 3 (.q 4 (.q 5 (.q 6 (.q 7 (.q 8 (.a 9 (.q 10 .nil))))))))))) (by kernel_rfl) (by kernel_rfl) ?_;refine aj ?_;refine xc [] (h) ?_;refine aj ?_;exact av
end Go.Xg
namespace Go.Xg
open Go.RowKit Go.Xw Go.Proofs
open Go.Xp (Tok Nd T levels ca bx aD ay)
open Go.Im
attribute [local irreducible] GW GL GO YG GC GA aS aW
structure Wr (ex bk:FuncId) (tx:T->ae) (inl:List ae->Nat->ae):Prop where
 expr:∀ a,fA a=true->oc a->iY a<=1099511627776->GF Tryz.prog ex [uT a] [] (.v (sv (tx a))) []
 block:∀ l (d:Nat),(inl l d).length<=1099511627776->l.length<=1099511627776->d<=1099511627776->GF Tryz.prog bk [strs l,.v (ii (d:Nat))] [] (.v (sv (inl l d))) []
 mem:∀ l d s,s∈l->s.length<=(inl l d).length
theorem xQ (ex bk:FuncId) [he:aB Tryz.prog ex] [hb:aB Tryz.prog bk] (tx:T->ae) (inl:List ae->Nat->ae) (W:Wr ex bk tx inl) (t:T) (d:Nat) (hd:d+1<=1099511627776) (hl:t.kids.length<=1099511627776) (hlen:(mc tx inl d t).length<=1099511627776)
  (h:∀ a∈t.kids,(jq tx inl (d+1) a).length<=1099511627776->GF Tryz.prog 165 [.agg [.v (gU ex),.v (gU bk)],uT a,.v (ii ((d+1:Nat):Int))] [] (.v (sv (jq tx inl (d+1) a))) []) :
  GF Tryz.prog 136 [.agg [.v (gU ex),.v (gU bk)],uT t,.v (ii (d:Nat))] [] (.v (sv (mc tx inl d t))) []:=by
 have ow:=p8 t.kids;rw [Jt,Hf] at hlen |-;have dH:=W.block (t.kids.map (jq tx inl (d+1))) d hlen (by simpa using hl) ah
 have hk:∀ a∈t.kids,GF Tryz.prog 165 [.agg [.v (gU ex),.v (gU bk)],uT a,.v (ii ((d+1:Nat):Int))] [] (.v (sv (jq tx inl (d+1) a))) []:=fun a ha =>
  h a ha (Nat.le_trans (W.mem _ d _ (List.mem_map.2 ⟨a,ha,rfl⟩)) hlen)
 generalize inl (t.kids.map (jq tx inl (d+1))) d=y at *;refine ai Tryz.func136 Tryz.ntmps136 ?_;refine GW.wk (Wk.A6 (t:=7) (a:=none) (c:=0) 9 1 rfl) ?_;refine GW.range (bT t.kids).length (fun k fr Γ=>∃ m rows,fr=[.Zy,.Zy,.v (ii (d:Nat)),.loc 0 0,.Zy,.Zy,.Zy,.vec 1 m,.Zy,.Zy,.Zy,.Zy,.Zy,.sl 1 (bT t.kids),.v (ii ((bT t.kids).length:Int)),.v (ii (k:Nat)),.Zy,.Zy,.Zy,.Zy,.Zy,.Zy,.Zy,.Zy,.Zy,.Zy,.Zy,.Zy,.Zy,.Zy,.Zy,.Zy,.Zy]/\Γ=[.box 151 [.v (gU ex),.v (gU bk)],.vec 9 1 0 rows]/\rows.length=m/\rows=((t.kids.take k).map (jq tx inl (d+1))).map (fun s=>[GV.v (sv s)])/\m=k) ?_ ah ?_ ?_ ?_
 ·exact ⟨_,_,Wk.ax al,0,[],rfl,rfl,rfl,rfl,rfl⟩
 ·rintro k _ _ ⟨m,rows,rfl,rfl,_⟩;exact ⟨rfl,rfl,rfl⟩
 ·rintro k _ _ aq ⟨m,rows,rfl,rfl,hm,bo,rW⟩;rw [ow] at aq
  have cz:t.kids[k]?=some t.kids[k]:=by simp [aq]
  have hr:=uP cz;have ht:=hk t.kids[k] (getElem_mem aq)
  have bp:((t.kids.take (k+1)).map (jq tx inl (d+1))).map (fun s=>[GV.v (sv s)])=rows++[[.v (sv (jq tx inl (d+1) t.kids[k]))]]:=by rw [take_add_one,cz,bo,map_append,map_append];rfl
  generalize t.kids[k]=wO at *;generalize jq tx inl (d+1) wO=z at *;refine ab ?_;refine U [] (ht) ?_;refine dX ?_;refine ab ?_;exact ⟨rfl,rfl,_,_,Wk.ax al,_,_,rfl,rfl,by simp [hm],bp.symm,by omega⟩
 ·rintro _ _ ⟨m,rows,rfl,rfl,hm,bo,rW⟩;rw [ow,take_length] at bo;refine aL ?_;refine GW.wk (Wk.gD (t:=7) rfl rfl rfl hm) ?_;subst bo;refine ab ?_;refine gR [] (dH) ?_;exact av
theorem TR {t:T} {n:Nat} (h:cM t.n.kind t.kids.length=true) (hk:(n=1/\(t.n.kind=13\/t.n.kind=7\/t.n.kind=11\/t.n.kind=12))\/(n=2/\(t.n.kind=8\/t.n.kind=10))):t.kids.length=n:=by
 unfold cM at h
 rcases hk with ⟨rfl,hk⟩ | ⟨rfl,hk⟩
 ·rcases hk with hk | hk | hk | hk <;> rw [hk] at h <;> simp at h <;> omega
 ·rcases hk with hk | hk <;> rw [hk] at h <;> simp at h <;> omega
theorem Si {t:T} (h:cM t.n.kind t.kids.length=true) (hk:t.n.kind=9):t.kids.length=2\/t.kids.length=3:=by
 unfold cM at h;rw [hk] at h;simp at h;omega
theorem FF (ex bk:FuncId) [he:aB Tryz.prog ex] [hb:aB Tryz.prog bk] (tx:T->ae) (inl:List ae->Nat->ae) (W:Wr ex bk tx inl):∀ (N:Nat) (t:T),aD t<=N->fA t=true->oc t->iY t<=1099511627776->∀ d,d+aD t<=1099511627776->(jq tx inl d t).length<=1099511627776 ->
  GF Tryz.prog 165 [.agg [.v (gU ex),.v (gU bk)],uT t,.v (ii (d:Nat))] [] (.v (sv (jq tx inl d t))) []:=by
 intro N
 induction N with
 | zero=>intro t h;rw [Go.Xp.eh] at h;omega
 | succ N ih =>
 intro t hN hk hn hw d hd hlen;have fT:=W.expr t hk hn hw;rw [Go.Xp.eh] at hN hd;rw [Go.Im.wN,Bool.and_eq_true,Go.Im.sd,all_eq_true] at hk;rw [Go.Im.pX] at hn;have Zp:=Go.Im.nV t
 have H8:∀ (l:List T) (a:T),a∈l->aD a<=ay l:=by
  intro l
  induction l with
  | nil=>intro a h;cases h
  | cons b l ih2 =>
   intro a h;rw [ay]
   rcases List.mem_cons.1 h with rfl | h
   ·omega
   ·have:=ih2 a h;omega
 have eM:=fun (k:Nat) (a:T) (mg:t.kids[k]?=some a)=>Uc ex bk tx t a k mg (W.expr a (hk.2 a (mem_of_getElem? mg)) (Go.Im.iV hn.2 (mem_of_getElem? mg)) (by have:=Go.Im.sI (mem_of_getElem? mg);omega))
 have dH:∀ a∈t.kids,(mc tx inl d a).length<=1099511627776->GF Tryz.prog 136 [.agg [.v (gU ex),.v (gU bk)],uT a,.v (ii (d:Nat))] [] (.v (sv (mc tx inl d a))) []:=fun a ha RF=>by
  have h1:=H8 _ a ha;have h2:=Go.Im.sI ha;have h3:=hk.2 a ha;have h4:=Go.Im.iV hn.2 ha;rw [Go.Im.wN,Bool.and_eq_true,Go.Im.sd,all_eq_true] at h3;rw [Go.Im.pX] at h4;have h5:=Go.Xp.eh a;have h6:=Go.Xp.cK a.kids;have h7:=Go.Im.nV a
  refine xQ ex bk tx inl W a d ah ah RF fun b ey XB=>?_
  have h8:=H8 _ b ey;have h9:=Go.Im.sI ey;exact ih b ah (h3.2 b ey) (Go.Im.iV h4.2 ey) ah (d+1) ah XB
 rw [LC] at hlen |-;unfold vV at hlen |-;rw [FP] at hlen |-;have mC:=@TR t;have VX:=@Si t hk.1
 have mC:=fun n=>@mC n hk.1
 unfold uT at fT |-;unfold uT at eM;generalize jy:t.n.kind=kd at *
 by_cases eu:kd=13
 ·subst eu
  have f13:((13:Int)==13)=true:=by decide
  rw [if_pos rfl] at hlen |-;have eP:=mC 1 (.inl ⟨rfl,.inl rfl⟩)
  obtain ⟨a,ha⟩:∃ a,t.kids=[a]:=by
   match hl:t.kids,eP with
   | [a],_=>exact ⟨a,rfl⟩
  have h0:=eM 0 a (by rw [ha];rfl);rw [ha] at hlen |-;rw [ha] at h0;simp only [List.map_cons,map_nil,getD_cons_zero,length_append,length_cons,length_nil] at hlen |-;generalize tx a=x at *;generalize bT [a]=rows at *;refine cP Tryz.func165 Tryz.ntmps165 ?_;refine gT ?_;refine GL.wk (Wk.freeze (i:=0) rfl rfl rfl (Nat.zero_le _)) ?_;refine GL.wk (Wk.freeze (i:=1) rfl rfl rfl (Nat.zero_le _)) ?_;refine GN (by simp only [my,lY];rfl) ?_;refine ab ?_;refine GW.draw (.q 0 (.q 1 (.q 2 (.q 3 (.q 4 (.q 5 (.q 6 (.q 7 (.a 8 (.q 9 (.q 10 (.q 11 .nil)))))))))))) (by kernel_rfl) (by kernel_rfl) ?_;refine aj ?_;refine mT [] (h0) ?_;refine aj ?_;exact av
 rw [if_neg eu] at hlen |-
 have g13:(kd==13)=false:=by simpa using eu
 by_cases h7:kd=7
 ·subst h7
  have f13:((7:Int)==13)=false:=by decide
  have f7:((7:Int)==7)=true:=by decide
  rw [if_pos rfl] at hlen |-;have eP:=mC 1 (.inl ⟨rfl,.inr (.inl rfl)⟩)
  obtain ⟨a,ha⟩:∃ a,t.kids=[a]:=by
   match hl:t.kids,eP with
   | [a],_=>exact ⟨a,rfl⟩
  have h0:=eM 0 a (by rw [ha];rfl);rw [ha] at hlen |-;rw [ha] at h0;simp only [List.map_cons,map_nil,getD_cons_zero,length_append,length_cons,length_nil] at hlen |-;generalize tx a=x at *;generalize bT [a]=rows at *;refine cP Tryz.func165 Tryz.ntmps165 ?_;refine gT ?_;refine GL.wk (Wk.freeze (i:=0) rfl rfl rfl (Nat.zero_le _)) ?_;refine GL.wk (Wk.freeze (i:=1) rfl rfl rfl (Nat.zero_le _)) ?_;refine GN (by simp only [my,lY];rfl) ?_;refine ab ?_;refine GW.draw (.q 0 (.q 1 (.q 2 (.q 3 (.q 4 (.q 5 (.q 6 (.a 7 (.q 8 (.q 9 (.q 10 .nil))))))))))) (by kernel_rfl) (by kernel_rfl) ?_;refine aj ?_;refine mT [] (h0) ?_;refine aj ?_;exact av
 rw [if_neg h7] at hlen |-
 have g7:(kd==7)=false:=by simpa using h7
 by_cases h8:kd=8
 ·subst h8
  have f13:((8:Int)==13)=false:=by decide
  have f7:((8:Int)==7)=false:=by decide
  have f8:((8:Int)==8)=true:=by decide
  rw [if_pos rfl] at hlen |-;have eP:=mC 2 (.inr ⟨rfl,.inl rfl⟩)
  obtain ⟨a,b,ha⟩:∃ a b,t.kids=[a,b]:=by
   match hl:t.kids,eP with
   | [a,b],_=>exact ⟨a,b,rfl⟩
  have h0:=eM 0 a (by rw [ha];rfl);have h1:=eM 1 b (by rw [ha];rfl);rw [ha] at hlen |-;rw [ha] at h0 h1;simp only [List.map_cons,map_nil,getD_cons_zero,getD_cons_succ,length_append,length_cons,length_nil] at hlen |-;generalize tx a=x at *;generalize tx b=y at *;generalize bT [a,b]=rows at *;refine cP Tryz.func165 Tryz.ntmps165 ?_;refine gT ?_;refine GL.wk (Wk.freeze (i:=0) rfl rfl rfl (Nat.zero_le _)) ?_;refine GL.wk (Wk.freeze (i:=1) rfl rfl rfl (Nat.zero_le _)) ?_;refine GN (by simp only [my,lY];rfl) ?_;refine ab ?_;refine GW.draw (.q 0 (.q 1 (.q 2 (.q 3 (.q 4 (.q 5 (.q 6 (.q 10 (.a 7 (.q 8 (.q 9 (.a 11 (.q 12 (.q 13 (.q 14 .nil))))))))))))))) (by kernel_rfl) (by kernel_rfl) ?_;refine aj ?_;refine mT [] (h0) ?_;refine aj ?_;refine mT [] (h1) ?_;refine aj ?_;exact av
 rw [if_neg h8] at hlen |-
 have g8:(kd==8)=false:=by simpa using h8
 by_cases h9:kd=9
 ·subst h9
  have f13:((9:Int)==13)=false:=by decide
  have f7:((9:Int)==7)=false:=by decide
  have f8:((9:Int)==8)=false:=by decide
  have f9:((9:Int)==9)=true:=by decide
  rw [if_pos rfl] at hlen |-
  rcases VX rfl with eP | eP
  ·skip
   obtain ⟨a,b,ha⟩:∃ a b,t.kids=[a,b]:=by
    match hl:t.kids,eP with
    | [a,b],_=>exact ⟨a,b,rfl⟩
   have h0:=eM 0 a (by rw [ha];rfl)
   have gg:(bT [a,b])[1]?=some [uT b]:=by rw [jJ];rfl
   have DE:(bT [a,b]).length=2:=by rw [p8];rfl
   have rZ:(((bT [a,b]).length:Int)==3)=false:=by rw [DE];decide
   rw [ha] at hlen |-;rw [ha] at h0;rw [if_neg (by simp)] at hlen |-;simp only [List.map_cons,map_nil,getD_cons_zero,getD_cons_succ,length_append,length_cons,length_nil] at hlen |-;have xX:=dH b (by rw [ha];simp) ah;generalize tx a=x at *;generalize mc tx inl d b=y at *;clear dH eM ih;generalize bT [a,b]=rows at *;refine cP Tryz.func165 Tryz.ntmps165 ?_;refine gT ?_;refine GL.wk (Wk.freeze (i:=0) rfl rfl rfl (Nat.zero_le _)) ?_;refine GL.wk (Wk.freeze (i:=1) rfl rfl rfl (Nat.zero_le _)) ?_;refine GN (by simp only [my,lY];rfl) ?_;refine ab ?_;refine GW.draw (.q 0 (.q 4 (.q 5 (.q 6 (.q 7 (.q 8 (.q 9 (.q 10 (.q 11 (.a 1 (.q 2 (.q 3 (.a 12 (.q 13 (.q 14 .nil))))))))))))))) (by kernel_rfl) (by kernel_rfl) ?_;refine aj ?_;refine mT [] (h0) ?_;refine aj ?_;refine aC [] (xX) ?_;exact av
  ·skip
   obtain ⟨a,b,c,ha⟩:∃ a b c,t.kids=[a,b,c]:=by
    match hl:t.kids,eP with
    | [a,b,c],_=>exact ⟨a,b,c,rfl⟩
   have h0:=eM 0 a (by rw [ha];rfl)
   have gg:(bT [a,b,c])[1]?=some [uT b]:=by rw [jJ];rfl
   have dd:(bT [a,b,c])[2]?=some [uT c]:=by rw [jJ];rfl
   have DE:(bT [a,b,c]).length=3:=by rw [p8];rfl
   have rZ:(((bT [a,b,c]).length:Int)==3)=true:=by rw [DE];decide
   rw [ha] at hlen |-;rw [ha] at h0;rw [if_pos (by simp)] at hlen |-;simp only [List.map_cons,map_nil,getD_cons_zero,getD_cons_succ,length_append,length_cons,length_nil] at hlen |-;have xX:=dH b (by rw [ha];simp) ah;have ey:=dH c (by rw [ha];simp) ah;generalize tx a=x at *;generalize mc tx inl d b=y at *;generalize mc tx inl d c=z at *;clear dH eM ih;generalize bT [a,b,c]=rows at *;refine cP Tryz.func165 Tryz.ntmps165 ?_;refine gT ?_;refine GL.wk (Wk.freeze (i:=0) rfl rfl rfl (Nat.zero_le _)) ?_;refine GL.wk (Wk.freeze (i:=1) rfl rfl rfl (Nat.zero_le _)) ?_;refine GN (by simp only [my,lY];rfl) ?_;refine ab ?_;refine GW.draw (.q 0 (.q 4 (.q 5 (.q 6 (.q 7 (.q 8 (.q 9 (.q 10 (.q 11 (.a 1 (.q 2 (.q 3 (.a 12 (.q 13 (.q 14 .nil))))))))))))))) (by kernel_rfl) (by kernel_rfl) ?_;refine aj ?_;refine mT [] (h0) ?_;refine aj ?_;refine aC [] (xX) ?_;refine ab ?_;refine GW.draw (.q 0 (.q 1 (.q 2 (.q 3 (.q 4 (.q 5 (.q 6 (.q 7 (.q 8 (.a 9 (.q 10 (.q 11 (.q 12 .nil))))))))))))) (by kernel_rfl) (by kernel_rfl) ?_;refine aj ?_;refine aC [] (ey) ?_;exact av
 rw [if_neg h9] at hlen |-
 have g9:(kd==9)=false:=by simpa using h9
 by_cases ky:kd=10
 ·subst ky
  have f13:((10:Int)==13)=false:=by decide
  have f7:((10:Int)==7)=false:=by decide
  have f8:((10:Int)==8)=false:=by decide
  have f9:((10:Int)==9)=false:=by decide
  have f10:((10:Int)==10)=true:=by decide
  rw [if_pos rfl] at hlen |-;have eP:=mC 2 (.inr ⟨rfl,.inr rfl⟩)
  ·skip
   obtain ⟨a,b,ha⟩:∃ a b,t.kids=[a,b]:=by
    match hl:t.kids,eP with
    | [a,b],_=>exact ⟨a,b,rfl⟩
   have h0:=eM 0 a (by rw [ha];rfl)
   have gg:(bT [a,b])[1]?=some [uT b]:=by rw [jJ];rfl
   have DE:(bT [a,b]).length=2:=by rw [p8];rfl
   have rZ:(((bT [a,b]).length:Int)==3)=false:=by rw [DE];decide
   rw [ha] at hlen |-;rw [ha] at h0;simp only [List.map_cons,map_nil,getD_cons_zero,getD_cons_succ,length_append,length_cons,length_nil] at hlen |-;have xX:=dH b (by rw [ha];simp) ah;generalize tx a=x at *;generalize mc tx inl d b=y at *;clear dH eM ih;generalize bT [a,b]=rows at *;refine cP Tryz.func165 Tryz.ntmps165 ?_;refine gT ?_;refine GL.wk (Wk.freeze (i:=0) rfl rfl rfl (Nat.zero_le _)) ?_;refine GL.wk (Wk.freeze (i:=1) rfl rfl rfl (Nat.zero_le _)) ?_;refine GN (by simp only [my,lY];rfl) ?_;refine ab ?_;refine GW.draw (.q 0 (.q 4 (.q 5 (.q 6 (.q 7 (.q 8 (.q 9 (.q 10 (.q 11 (.a 1 (.q 2 (.q 3 (.a 12 (.q 13 (.q 14 .nil))))))))))))))) (by kernel_rfl) (by kernel_rfl) ?_;refine aj ?_;refine mT [] (h0) ?_;refine aj ?_;refine aC [] (xX) ?_;exact av
 rw [if_neg ky] at hlen |-
 have g10:(kd==10)=false:=by simpa using ky
 by_cases nL:kd=11
 ·subst nL
  have f13:((11:Int)==13)=false:=by decide
  have f7:((11:Int)==7)=false:=by decide
  have f8:((11:Int)==8)=false:=by decide
  have f9:((11:Int)==9)=false:=by decide
  have f10:((11:Int)==10)=false:=by decide
  have f11:((11:Int)==11)=true:=by decide
  rw [if_pos rfl] at hlen |-;have eP:=mC 1 (.inl ⟨rfl,.inr (.inr (.inl rfl))⟩)
  obtain ⟨a,ha⟩:∃ a,t.kids=[a]:=by
   match hl:t.kids,eP with
   | [a],_=>exact ⟨a,rfl⟩
  have h0:=eM 0 a (by rw [ha];rfl);rw [ha] at hlen |-;rw [ha] at h0;simp only [List.map_cons,map_nil,getD_cons_zero,length_append,length_cons,length_nil] at hlen |-;generalize tx a=x at *;generalize bT [a]=rows at *;refine cP Tryz.func165 Tryz.ntmps165 ?_;refine gT ?_;refine GL.wk (Wk.freeze (i:=0) rfl rfl rfl (Nat.zero_le _)) ?_;refine GL.wk (Wk.freeze (i:=1) rfl rfl rfl (Nat.zero_le _)) ?_;refine GN (by simp only [my,lY];rfl) ?_;refine ab ?_;refine mR [] (h0) ?_;exact av
 rw [if_neg nL] at hlen |-
 have g11:(kd==11)=false:=by simpa using nL
 by_cases nm:kd=12
 ·subst nm
  have f13:((12:Int)==13)=false:=by decide
  have f7:((12:Int)==7)=false:=by decide
  have f8:((12:Int)==8)=false:=by decide
  have f9:((12:Int)==9)=false:=by decide
  have f10:((12:Int)==10)=false:=by decide
  have f11:((12:Int)==11)=false:=by decide
  have f12:((12:Int)==12)=true:=by decide
  rw [if_pos rfl] at hlen |-;have eP:=mC 1 (.inl ⟨rfl,.inr (.inr (.inr rfl))⟩)
  obtain ⟨a,ha⟩:∃ a,t.kids=[a]:=by
   match hl:t.kids,eP with
   | [a],_=>exact ⟨a,rfl⟩
  have h0:=eM 0 a (by rw [ha];rfl);rw [ha] at hlen |-;rw [ha] at h0;simp only [List.map_cons,map_nil,getD_cons_zero,length_append,length_cons,length_nil] at hlen |-;generalize tx a=x at *;generalize bT [a]=rows at *;refine cP Tryz.func165 Tryz.ntmps165 ?_;refine gT ?_;refine GL.wk (Wk.freeze (i:=0) rfl rfl rfl (Nat.zero_le _)) ?_;refine GL.wk (Wk.freeze (i:=1) rfl rfl rfl (Nat.zero_le _)) ?_;refine GN (by simp only [my,lY];rfl) ?_;refine ab ?_;refine mR [] (h0) ?_;exact av
 rw [if_neg nm] at hlen |-
 have g12:(kd==12)=false:=by simpa using nm
 clear dH eM ih;generalize tx t=x at *;refine cP Tryz.func165 Tryz.ntmps165 ?_;refine gT ?_;refine GL.wk (Wk.freeze (i:=0) rfl rfl rfl (Nat.zero_le _)) ?_;refine GL.wk (Wk.freeze (i:=1) rfl rfl rfl (Nat.zero_le _)) ?_;refine GN (by simp only [my,lY];rfl) ?_;refine ab ?_;refine gR [] (fT) ?_;exact av
end Go.Xg
namespace Go.Xg
open Go.RowKit Go.Xw Go.Proofs
open Go.Xp (Tok Nd T Ar levels ca bx aD ay)
open Go.Sp (Src)
open Go.Im
attribute [local irreducible] GW GL GO YG GC GA aS aW
theorem Nc (ex bk:FuncId) [he:aB Tryz.prog ex] [hb:aB Tryz.prog bk] (tx:T->ae) (inl:List ae->Nat->ae) (W:Wr ex bk tx inl) (p:Src) (trees:List T) (hlen:(l6 tx inl p trees).length<=1099511627776) (Zi:p.fns.length=trees.length)
  (hg:p.globals.length<=1099511627776) (ha:p.arrays.length<=1099511627776) (hf:p.fns.length<=1099511627776) (iF:∀ a∈p.arrays,-9223372036854775808<=a.size/\a.size<=9223372036854775807) (BS:∀ f∈p.fns,f.params.length<=1099511627776)
  (ht:∀ t∈trees,fA t=true/\oc t/\iY t<=1099511627776/\aD t+1<=1099511627776) :
  GF Tryz.prog 110 [.agg (ar p),.sl 1 (bT trees),.v (gU ex),.v (gU bk)] [] (.v (sv (l6 tx inl p trees))) []:=by
 have UQ:(p.globals.map fun s=>[GV.v (sv s)]).length=p.globals.length:=by simp
 have jS:(p.arrays.map az).length=p.arrays.length:=by simp
 have UP:(p.fns.map au).length=p.fns.length:=by simp
 have l2:=AB (f1 tx inl) (p.fns.zip trees) (db a1 (db g1 [] p.globals) p.arrays);have l1:=AB a1 p.arrays (db g1 [] p.globals);unfold l6 at hlen |-;refine ai Tryz.func110 Tryz.ntmps110 ?_;refine GW.wk (Wk.A6 (t:=9) (a:=none) (c:=0) 5 1 rfl) ?_;refine GW.range (p.globals.map fun s=>[GV.v (sv s)]).length (fun k fr Γ=>∃ acc m rows,fr=[.Zy,.sl 1 (bT trees),.v (gU ex),.v (gU bk),.loc 0 0,.Zy,.Zy,.Zy,.Zy,.vec 1 m,.Zy,.Zy,.Zy,.Zy,.Zy,.Zy,.Zy,.Zy,strs p.globals,.v (ii ((p.globals.map fun s=>[GV.v (sv s)]).length:Int)),.v (ii (k:Nat)),.Zy,.Zy,.Zy,.Zy,.Zy,.Zy,.Zy,.Zy,.Zy,.Zy,.Zy,.Zy,.Zy,.Zy,.Zy,.Zy,.Zy,.Zy,.Zy,.Zy,.Zy,.Zy,.Zy,.Zy,.Zy,.Zy,.Zy,.Zy,.Zy,.Zy,.Zy,.Zy,.Zy,.Zy,.Zy,.Zy,.Zy,.Zy,.Zy,.Zy,.Zy,.Zy,.Zy,.Zy,.Zy,.Zy,.Zy,.Zy,.Zy,.Zy,.Zy,.Zy,.Zy,.Zy,.Zy,.Zy,.Zy,.Zy,.Zy,.Zy,.Zy]/\Γ=[.box 34 (ar p),.vec 5 1 0 rows]/\rows.length=m/\rows=bW acc/\acc=db g1 [] (p.globals.take k)) ?_ ah ?_ ?_ ?_
 ·exact ⟨_,_,Wk.ax al,[],0,[],rfl,rfl,rfl,rfl,rfl⟩
 ·rintro k _ _ ⟨acc,m,rows,rfl,rfl,_⟩;exact ⟨rfl,rfl,rfl⟩
 ·rintro k _ _ aq ⟨acc,m,rows,rfl,rfl,hm,bo,ku⟩;rw [UQ] at aq
  have cz:p.globals[k]?=some p.globals[k]:=by simp [aq]
  have zF:(p.globals.map fun s=>[GV.v (sv s)])[k]?=some [.v (sv p.globals[k])]:=by rw [getElem?_map,cz];rfl
  have bp:db g1 [] (p.globals.take (k+1))=acc++g1 p.globals[k]:=by rw [take_add_one,cz,ku];exact vZ g1 _ _ _
  have hle:=v7 g1 p.globals (k+1) [];rw [bp,length_append] at hle
  have UR:rows.length=acc.length:=by rw [bo];simp [bW]
  generalize p.globals[k]=z at *
  have hz:(g1 z).length=z.length+6:=by unfold g1;simp
  refine ab ?_;refine GL.At (str:=g1 z) rfl rfl rfl (by first | rfl | assumption) rfl ah ?_;refine cL ?_;refine ab ?_;exact ⟨rfl,rfl,_,_,Wk.ax al,acc++g1 z,_,_,rfl,rfl,by rw [length_append,hm];simp [bW],by rw [bo];exact (sQ acc (g1 z)).symm,bp.symm⟩
 ·rintro _ _ ⟨acc,m,rows,rfl,rfl,hm,bo,ku⟩;rw [UQ,take_length] at ku;rw [<-ku] at hlen l1 l2 |-;refine aL ?_;refine ab ?_;refine GW.range (p.arrays.map az).length (fun k fr Γ=>∃ pH m rows,fr=[.Zy,.sl 1 (bT trees),.v (gU ex),.v (gU bk),.loc 0 0,.Zy,.Zy,.Zy,.Zy,.vec 1 m,.Zy,.Zy,.Zy,.Zy,.Zy,.Zy,.Zy,.Zy,.Zy,.Zy,.Zy,.Zy,.Zy,.Zy,.Zy,.Zy,.Zy,.Zy,.Zy,.Zy,.Zy,.sl 2 (p.arrays.map az),.v (ii ((p.arrays.map az).length:Int)),.v (ii (k:Nat)),.Zy,.Zy,.Zy,.Zy,.Zy,.Zy,.Zy,.Zy,.Zy,.Zy,.Zy,.Zy,.Zy,.Zy,.Zy,.Zy,.Zy,.Zy,.Zy,.Zy,.Zy,.Zy,.Zy,.Zy,.Zy,.Zy,.Zy,.Zy,.Zy,.Zy,.Zy,.Zy,.Zy,.Zy,.Zy,.Zy,.Zy,.Zy,.Zy,.Zy,.Zy,.Zy,.Zy,.Zy,.Zy,.Zy,.Zy,.Zy]/\Γ=[.box 34 (ar p),.vec 5 1 0 rows]/\rows.length=m/\rows=bW pH/\pH=db a1 acc (p.arrays.take k)) ?_ ah ?_ ?_ ?_
  ·exact ⟨_,_,Wk.ax al,acc,m,rows,rfl,rfl,hm,bo,rfl⟩
  ·rintro k _ _ ⟨pH,m,rows,rfl,rfl,_⟩;exact ⟨rfl,rfl,rfl⟩
  ·clear hm bo;rintro k _ _ aq ⟨pH,m,rows,rfl,rfl,hm,bo,CG⟩;rw [jS] at aq
   have cz:p.arrays[k]?=some p.arrays[k]:=by simp [aq]
   have zF:(p.arrays.map az)[k]?=some (az p.arrays[k]):=by rw [getElem?_map,cz];rfl
   have bp:db a1 acc (p.arrays.take (k+1))=pH++a1 p.arrays[k]:=by rw [take_add_one,cz,CG];exact vZ a1 _ _ _
   have hle:=v7 a1 p.arrays (k+1) acc;rw [bp,length_append] at hle
   have UR:rows.length=pH.length:=by rw [bo];simp [bW]
   have wJ:=iF p.arrays[k] (getElem_mem aq);generalize p.arrays[k]=z at *;have hit:=Jg z.size wJ.1 wJ.2;have wA:=wM wJ
   have hz:(a1 z).length=z.name.length+(nb z.size).length+8:=by unfold a1;simp;omega
   unfold az at zF;refine ab ?_;refine GW.draw (.q 0 (.q 1 (.q 2 (.q 3 (.q 4 (.q 5 (.q 6 (.a 7 (.q 8 (.q 9 (.a 10 (.q 11 .nil)))))))))))) (by kernel_rfl) (by kernel_rfl) ?_;refine aj ?_;refine aC [] (hit) ?_;refine OA rfl rfl (GL.At (str:=a1 z) rfl rfl rfl (by first | rfl | assumption) rfl ah (GL.nil (aL (et.mk (by repeat (first | exact ig.n | (apply ig.w;(· decide +kernel)) | (apply ig.y;(· first | (apply YQ.t;(· exact rfl);(· exact rfl);(· (first | (apply K.ld;first | exact YG.wT rfl rfl (by first | rfl | assumption) | exact YG.si rfl rfl rfl rfl | exact YG.ldV rfl rfl (by first | rfl | assumption) (by first | rfl | assumption) (by first | rfl | assumption) | exact YG.wR rfl rfl (by first | rfl | assumption) (by first | rfl | assumption) (by first | rfl | assumption)) | (apply K.idx;first | exact YG.idxV rfl rfl rfl (by first | rfl | assumption) ah | exact YG.bs 0 rfl rfl rfl (by first | omega | assumption | (simp only [length_append,length_cons,length_nil];omega)) | exact YG.bs 1 rfl rfl rfl (by first | omega | assumption | (simp only [length_append,length_cons,length_nil];omega)) | exact YG.bs 2 rfl rfl rfl (by first | omega | assumption | (simp only [length_append,length_cons,length_nil];omega)) | exact YG.bs 3 rfl rfl rfl (by first | omega | assumption | (simp only [length_append,length_cons,length_nil];omega)) | exact YG.bs 4 rfl rfl rfl (by first | omega | assumption | (simp only [length_append,length_cons,length_nil];omega)) | exact YG.bs 5 rfl rfl rfl (by first | omega | assumption | (simp only [length_append,length_cons,length_nil];omega)) | exact YG.bs 6 rfl rfl rfl (by first | omega | assumption | (simp only [length_append,length_cons,length_nil];omega))) | (apply K.oM;first | exact YG.fldV rfl rfl (by first | rfl | assumption) | exact YG.rP rfl rfl (by first | rfl | assumption)) | exact YG.qI 1 rfl rfl (by first | rfl | assumption) (by first | rfl | assumption) | exact YG.mv | exact YG.sO | (apply K.bin;first | exact YG.go rfl | exact YG.oG rfl rfl ah | exact YG.oJ rfl rfl | exact YG.oY rfl rfl | exact YG.uf rfl rfl | exact YG.uG rfl rfl | exact YG.cat rfl rfl ah | exact YG.cat rfl rfl (by simp only [length_append,length_cons,length_nil];omega) | exact YG.pI rfl rfl ah | exact YG.add rfl rfl ah | exact YG.sub rfl rfl ah | exact YG.mul rfl rfl ah | exact YG.sE rfl rfl ah | exact YG.quo rfl rfl ah | exact YG.rem rfl rfl ah | exact YG.nc rfl rfl) | (apply K.oM;first | exact YG.rQ rfl | exact YG.rO rfl) | (apply K.ld;first | exact YG.wQ rfl (by first | rfl | assumption) | exact YG.sf rfl rfl rfl) | (apply K.len;first | exact YG.oW rfl | exact YG.pR rfl | exact YG.sj rfl | exact YG.sk rfl | exact YG.lenA rfl) | (apply K.wX;first | exact YG.su rfl | exact YG.sr rfl) | (apply K.pick;first | exact YG.uM rfl (by first | rfl | assumption) | exact YG.uL rfl (by first | rfl | assumption)) | (apply K.idx;first | exact YG.nX rfl rfl (by assumption) | exact YG.fi rfl rfl (by assumption) rfl | exact YG.fi rfl rfl (by assumption) ah | exact YG.pP rfl rfl ah) | exact YG.ext rfl rfl | exact YG.go rfl | (apply K.w8;first | exact YG.sD rfl rfl rfl ah | exact YG.sC rfl rfl ah | exact YG.sB rfl rfl ah | exact YG.mK 1 rfl rfl rfl (by first | rfl | assumption)) | exact YG.pQ rfl rfl (by assumption) | exact YG.idxSC rfl rfl (by assumption) rfl | (apply K.iL;first | exact YG.mkfn0 | exact YG.iL) | exact YG.build rfl | exact YG.neg rfl ah | exact YG.pL rfl rfl | exact YG.v8 rfl (by first | rfl | exact IntWalk.i64_in _ ah | exact IntWalk.u8_in _ ah | assumption) | exact YG.str rfl (by first | rfl | assumption)))) | (apply YQ.t;(· exact rfl);(· apply AO;(· exact rfl);(· first | exact rfl | assumption));(· (first | (apply K.ld;first | exact YG.wT rfl rfl (by first | rfl | assumption) | exact YG.si rfl rfl rfl rfl | exact YG.ldV rfl rfl (by first | rfl | assumption) (by first | rfl | assumption) (by first | rfl | assumption) | exact YG.wR rfl rfl (by first | rfl | assumption) (by first | rfl | assumption) (by first | rfl | assumption)) | (apply K.idx;first | exact YG.idxV rfl rfl rfl (by first | rfl | assumption) ah | exact YG.bs 0 rfl rfl rfl (by first | omega | assumption | (simp only [length_append,length_cons,length_nil];omega)) | exact YG.bs 1 rfl rfl rfl (by first | omega | assumption | (simp only [length_append,length_cons,length_nil];omega)) | exact YG.bs 2 rfl rfl rfl (by first | omega | assumption | (simp only [length_append,length_cons,length_nil];omega)) | exact YG.bs 3 rfl rfl rfl (by first | omega | assumption | (simp only [length_append,length_cons,length_nil];omega)) | exact YG.bs 4 rfl rfl rfl (by first | omega | assumption | (simp only [length_append,length_cons,length_nil];omega)) | exact YG.bs 5 rfl rfl rfl (by first | omega | assumption | (simp only [length_append,length_cons,length_nil];omega)) | exact YG.bs 6 rfl rfl rfl (by first | omega | assumption | (simp only [length_append,length_cons,length_nil];omega))) | (apply K.oM;first | exact YG.fldV rfl rfl (by first | rfl | assumption) | exact YG.rP rfl rfl (by first | rfl | assumption)) | exact YG.qI 1 rfl rfl (by first | rfl | assumption) (by first | rfl | assumption) | exact YG.mv | exact YG.sO | (apply K.bin;first | exact YG.go rfl | exact YG.oG rfl rfl ah | exact YG.oJ rfl rfl | exact YG.oY rfl rfl | exact YG.uf rfl rfl | exact YG.uG rfl rfl | exact YG.cat rfl rfl ah | exact YG.cat rfl rfl (by simp only [length_append,length_cons,length_nil];omega) | exact YG.pI rfl rfl ah | exact YG.add rfl rfl ah | exact YG.sub rfl rfl ah | exact YG.mul rfl rfl ah | exact YG.sE rfl rfl ah | exact YG.quo rfl rfl ah | exact YG.rem rfl rfl ah | exact YG.nc rfl rfl) | (apply K.oM;first | exact YG.rQ rfl | exact YG.rO rfl) | (apply K.ld;first | exact YG.wQ rfl (by first | rfl | assumption) | exact YG.sf rfl rfl rfl) | (apply K.len;first | exact YG.oW rfl | exact YG.pR rfl | exact YG.sj rfl | exact YG.sk rfl | exact YG.lenA rfl) | (apply K.wX;first | exact YG.su rfl | exact YG.sr rfl) | (apply K.pick;first | exact YG.uM rfl (by first | rfl | assumption) | exact YG.uL rfl (by first | rfl | assumption)) | (apply K.idx;first | exact YG.nX rfl rfl (by assumption) | exact YG.fi rfl rfl (by assumption) rfl | exact YG.fi rfl rfl (by assumption) ah | exact YG.pP rfl rfl ah) | exact YG.ext rfl rfl | exact YG.go rfl | (apply K.w8;first | exact YG.sD rfl rfl rfl ah | exact YG.sC rfl rfl ah | exact YG.sB rfl rfl ah | exact YG.mK 1 rfl rfl rfl (by first | rfl | assumption)) | exact YG.pQ rfl rfl (by assumption) | exact YG.idxSC rfl rfl (by assumption) rfl | (apply K.iL;first | exact YG.mkfn0 | exact YG.iL) | exact YG.build rfl | exact YG.neg rfl ah | exact YG.pL rfl rfl | exact YG.v8 rfl (by first | rfl | exact IntWalk.i64_in _ ah | exact IntWalk.u8_in _ ah | assumption) | exact YG.str rfl (by first | rfl | assumption)))) | (apply YQ.f;(· exact rfl);(· apply De;(· exact rfl);(· first | exact rfl | assumption))))))) ?_))))
   refine LY ?_;refine aj ?_;refine ab ?_;exact ⟨rfl,rfl,_,_,(Wk.cut (n:=2) (Nat.zero_le _) rfl).trans (Wk.ax al),pH++a1 z,_,_,rfl,rfl,by rw [length_append,hm];simp [bW],by rw [bo];exact (sQ pH (a1 z)).symm,bp.symm⟩
  ·clear hm bo;rintro _ _ ⟨pH,m,rows,rfl,rfl,hm,bo,CG⟩;rw [jS,take_length] at CG;rw [<-CG] at hlen l2 |-
   have nz:∀ (k:Nat) (f:Go.Sp.Fn),p.fns[k]?=some f->f.params.length<=1099511627776:=fun k f h=>BS f (mem_of_getElem? h)
   refine aL ?_;refine ab ?_;refine GW.range (p.fns.map au).length (fun k fr Γ=>∃ tC m rows,fr=[.Zy,.sl 1 (bT trees),.Zy,.Zy,.Zy,.Zy,.Zy,.Zy,.Zy,.vec 1 m,.Zy,.Zy,.Zy,.Zy,.loc 2 0,.Zy,.Zy,.Zy,.Zy,.Zy,.Zy,.Zy,.Zy,.Zy,.Zy,.Zy,.Zy,.Zy,.Zy,.Zy,.Zy,.Zy,.Zy,.Zy,.Zy,.Zy,.Zy,.Zy,.Zy,.Zy,.Zy,.Zy,.Zy,.Zy,.Zy,.Zy,.Zy,.Zy,.Zy,.Zy,.Zy,.Zy,.Zy,.sl 3 (p.fns.map au),.v (ii ((p.fns.map au).length:Int)),.v (ii (k:Nat)),.Zy,.Zy,.Zy,.Zy,.Zy,.Zy,.Zy,.Zy,.Zy,.Zy,.Zy,.Zy,.Zy,.Zy,.Zy,.Zy,.Zy,.Zy,.Zy,.Zy,.Zy,.Zy,.Zy,.Zy,.Zy,.Zy]/\Γ=[.box 34 (ar p),.vec 5 1 0 rows,.box 151 [.v (gU ex),.v (gU bk)]]/\rows.length=m/\rows=bW tC/\tC=db (f1 tx inl) pH ((p.fns.zip trees).take k)) ?_ ah ?_ ?_ ?_
   ·exact ⟨_,_,Wk.ax al,pH,m,rows,rfl,rfl,hm,bo,rfl⟩
   ·rintro k _ _ ⟨tC,m,rows,rfl,rfl,_⟩;exact ⟨rfl,rfl,rfl⟩
   ·clear hm bo;rintro k _ _ aq ⟨tC,m,rows,rfl,rfl,hm,bo,CH⟩;rw [UP] at aq
    have lZ:k < trees.length:=by omega
    have cz:p.fns[k]?=some p.fns[k]:=by simp [aq]
    have vR:trees[k]?=some trees[k]:=by simp [lZ]
    have zF:(p.fns.map au)[k]?=some (au p.fns[k]):=by rw [getElem?_map,cz];rfl
    have YM:=uP vR
    have Xz:(p.fns.zip trees)[k]?=some (p.fns[k],trees[k]):=by rw [List.getElem?_zip_eq_some];exact ⟨cz,vR⟩
    have bp:db (f1 tx inl) pH ((p.fns.zip trees).take (k+1))=tC++f1 tx inl (p.fns[k],trees[k]):=by rw [take_add_one,Xz,CH];exact vZ (f1 tx inl) _ _ _
    have hle:=v7 (f1 tx inl) (p.fns.zip trees) (k+1) pH;rw [bp,length_append] at hle
    have UR:rows.length=tC.length:=by rw [bo];simp [bW]
    obtain ⟨q1,q2,q3,q4⟩:=ht trees[k] (getElem_mem lZ);have XO:=nz k _ cz;generalize p.fns[k]=f at *;generalize trees[k]=t at *
    have hz:(f1 tx inl (f,t)).length=f.name.length+(bx f.params).length+(mc tx inl 0 t).length+9:=by unfold f1;simp;omega
    have hJ:=Jh f.params ah XO
    have H8:∀ (l:List T) (a:T),a∈l->aD a<=ay l:=by
     intro l
     induction l with
     | nil=>intro a h;cases h
     | cons b l ih2 =>
      intro a h;rw [ay]
      rcases List.mem_cons.1 h with rfl | h
      ·omega
      ·have:=ih2 a h;omega
    have hB:=xQ ex bk tx inl W t 0 ah (by have:=Go.Xp.cK t.kids;have:=Go.Xp.eh t;omega) ah fun a Kj RF=>by
     have h1:=H8 _ a Kj;have h2:=Go.Xp.eh t;have h3:=sI Kj;have h4:=nV t;rw [wN,Bool.and_eq_true,sd,all_eq_true] at q1;rw [pX] at q2;exact FF ex bk tx inl W _ a (Nat.le_refl _) (q1.2 a Kj) (iV q2.2 Kj) ah (0+1) ah RF
    unfold au at zF;refine ab ?_;refine GW.draw (.q 0 (.q 1 (.q 2 (.q 3 (.q 4 (.q 5 (.q 6 (.q 10 (.q 11 (.q 12 (.q 13 (.q 14 (.a 7 (.q 8 (.q 9 (.a 15 (.q 16 (.q 17 (.a 18 (.q 19 .nil)))))))))))))))))))) (by kernel_rfl) (by kernel_rfl) ?_;refine aj ?_;refine aC [] (hJ) ?_;refine aC [] (hB) ?_;refine OA rfl rfl (GL.At (str:=f1 tx inl (f,t)) rfl rfl rfl (by first | rfl | assumption) rfl ah (GL.nil (aL (et.mk (by repeat (first | exact ig.n | (apply ig.w;(· decide +kernel)) | (apply ig.y;(· first | (apply YQ.t;(· exact rfl);(· exact rfl);(· (first | (apply K.ld;first | exact YG.wT rfl rfl (by first | rfl | assumption) | exact YG.si rfl rfl rfl rfl | exact YG.ldV rfl rfl (by first | rfl | assumption) (by first | rfl | assumption) (by first | rfl | assumption) | exact YG.wR rfl rfl (by first | rfl | assumption) (by first | rfl | assumption) (by first | rfl | assumption)) | (apply K.idx;first | exact YG.idxV rfl rfl rfl (by first | rfl | assumption) ah | exact YG.bs 0 rfl rfl rfl (by first | omega | assumption | (simp only [length_append,length_cons,length_nil];omega)) | exact YG.bs 1 rfl rfl rfl (by first | omega | assumption | (simp only [length_append,length_cons,length_nil];omega)) | exact YG.bs 2 rfl rfl rfl (by first | omega | assumption | (simp only [length_append,length_cons,length_nil];omega)) | exact YG.bs 3 rfl rfl rfl (by first | omega | assumption | (simp only [length_append,length_cons,length_nil];omega)) | exact YG.bs 4 rfl rfl rfl (by first | omega | assumption | (simp only [length_append,length_cons,length_nil];omega)) | exact YG.bs 5 rfl rfl rfl (by first | omega | assumption | (simp only [length_append,length_cons,length_nil];omega)) | exact YG.bs 6 rfl rfl rfl (by first | omega | assumption | (simp only [length_append,length_cons,length_nil];omega))) | (apply K.oM;first | exact YG.fldV rfl rfl (by first | rfl | assumption) | exact YG.rP rfl rfl (by first | rfl | assumption)) | exact YG.qI 1 rfl rfl (by first | rfl | assumption) (by first | rfl | assumption) | exact YG.mv | exact YG.sO | (apply K.bin;first | exact YG.go rfl | exact YG.oG rfl rfl ah | exact YG.oJ rfl rfl | exact YG.oY rfl rfl | exact YG.uf rfl rfl | exact YG.uG rfl rfl | exact YG.cat rfl rfl ah | exact YG.cat rfl rfl (by simp only [length_append,length_cons,length_nil];omega) | exact YG.pI rfl rfl ah | exact YG.add rfl rfl ah | exact YG.sub rfl rfl ah | exact YG.mul rfl rfl ah | exact YG.sE rfl rfl ah | exact YG.quo rfl rfl ah | exact YG.rem rfl rfl ah | exact YG.nc rfl rfl) | (apply K.oM;first | exact YG.rQ rfl | exact YG.rO rfl) | (apply K.ld;first | exact YG.wQ rfl (by first | rfl | assumption) | exact YG.sf rfl rfl rfl) | (apply K.len;first | exact YG.oW rfl | exact YG.pR rfl | exact YG.sj rfl | exact YG.sk rfl | exact YG.lenA rfl) | (apply K.wX;first | exact YG.su rfl | exact YG.sr rfl) | (apply K.pick;first | exact YG.uM rfl (by first | rfl | assumption) | exact YG.uL rfl (by first | rfl | assumption)) | (apply K.idx;first | exact YG.nX rfl rfl (by assumption) | exact YG.fi rfl rfl (by assumption) rfl | exact YG.fi rfl rfl (by assumption) ah | exact YG.pP rfl rfl ah) | exact YG.ext rfl rfl | exact YG.go rfl | (apply K.w8;first | exact YG.sD rfl rfl rfl ah | exact YG.sC rfl rfl ah | exact YG.sB rfl rfl ah | exact YG.mK 1 rfl rfl rfl (by first | rfl | assumption)) | exact YG.pQ rfl rfl (by assumption) | exact YG.idxSC rfl rfl (by assumption) rfl | (apply K.iL;first | exact YG.mkfn0 | exact YG.iL) | exact YG.build rfl | exact YG.neg rfl ah | exact YG.pL rfl rfl | exact YG.v8 rfl (by first | rfl | exact IntWalk.i64_in _ ah | exact IntWalk.u8_in _ ah | assumption) | exact YG.str rfl (by first | rfl | assumption)))) | (apply YQ.t;(· exact rfl);(· apply AO;(· exact rfl);(· first | exact rfl | assumption));(· (first | (apply K.ld;first | exact YG.wT rfl rfl (by first | rfl | assumption) | exact YG.si rfl rfl rfl rfl | exact YG.ldV rfl rfl (by first | rfl | assumption) (by first | rfl | assumption) (by first | rfl | assumption) | exact YG.wR rfl rfl (by first | rfl | assumption) (by first | rfl | assumption) (by first | rfl | assumption)) | (apply K.idx;first | exact YG.idxV rfl rfl rfl (by first | rfl | assumption) ah | exact YG.bs 0 rfl rfl rfl (by first | omega | assumption | (simp only [length_append,length_cons,length_nil];omega)) | exact YG.bs 1 rfl rfl rfl (by first | omega | assumption | (simp only [length_append,length_cons,length_nil];omega)) | exact YG.bs 2 rfl rfl rfl (by first | omega | assumption | (simp only [length_append,length_cons,length_nil];omega)) | exact YG.bs 3 rfl rfl rfl (by first | omega | assumption | (simp only [length_append,length_cons,length_nil];omega)) | exact YG.bs 4 rfl rfl rfl (by first | omega | assumption | (simp only [length_append,length_cons,length_nil];omega)) | exact YG.bs 5 rfl rfl rfl (by first | omega | assumption | (simp only [length_append,length_cons,length_nil];omega)) | exact YG.bs 6 rfl rfl rfl (by first | omega | assumption | (simp only [length_append,length_cons,length_nil];omega))) | (apply K.oM;first | exact YG.fldV rfl rfl (by first | rfl | assumption) | exact YG.rP rfl rfl (by first | rfl | assumption)) | exact YG.qI 1 rfl rfl (by first | rfl | assumption) (by first | rfl | assumption) | exact YG.mv | exact YG.sO | (apply K.bin;first | exact YG.go rfl | exact YG.oG rfl rfl ah | exact YG.oJ rfl rfl | exact YG.oY rfl rfl | exact YG.uf rfl rfl | exact YG.uG rfl rfl | exact YG.cat rfl rfl ah | exact YG.cat rfl rfl (by simp only [length_append,length_cons,length_nil];omega) | exact YG.pI rfl rfl ah | exact YG.add rfl rfl ah | exact YG.sub rfl rfl ah | exact YG.mul rfl rfl ah | exact YG.sE rfl rfl ah | exact YG.quo rfl rfl ah | exact YG.rem rfl rfl ah | exact YG.nc rfl rfl) | (apply K.oM;first | exact YG.rQ rfl | exact YG.rO rfl) | (apply K.ld;first | exact YG.wQ rfl (by first | rfl | assumption) | exact YG.sf rfl rfl rfl) | (apply K.len;first | exact YG.oW rfl | exact YG.pR rfl | exact YG.sj rfl | exact YG.sk rfl | exact YG.lenA rfl) | (apply K.wX;first | exact YG.su rfl | exact YG.sr rfl) | (apply K.pick;first | exact YG.uM rfl (by first | rfl | assumption) | exact YG.uL rfl (by first | rfl | assumption)) | (apply K.idx;first | exact YG.nX rfl rfl (by assumption) | exact YG.fi rfl rfl (by assumption) rfl | exact YG.fi rfl rfl (by assumption) ah | exact YG.pP rfl rfl ah) | exact YG.ext rfl rfl | exact YG.go rfl | (apply K.w8;first | exact YG.sD rfl rfl rfl ah | exact YG.sC rfl rfl ah | exact YG.sB rfl rfl ah | exact YG.mK 1 rfl rfl rfl (by first | rfl | assumption)) | exact YG.pQ rfl rfl (by assumption) | exact YG.idxSC rfl rfl (by assumption) rfl | (apply K.iL;first | exact YG.mkfn0 | exact YG.iL) | exact YG.build rfl | exact YG.neg rfl ah | exact YG.pL rfl rfl | exact YG.v8 rfl (by first | rfl | exact IntWalk.i64_in _ ah | exact IntWalk.u8_in _ ah | assumption) | exact YG.str rfl (by first | rfl | assumption)))) | (apply YQ.f;(· exact rfl);(· apply De;(· exact rfl);(· first | exact rfl | assumption))))))) ?_))))
    refine LY ?_;refine aj ?_;refine ab ?_;exact ⟨rfl,rfl,_,_,(Wk.cut (n:=3) (Nat.zero_le _) rfl).trans (Wk.ax al),tC++f1 tx inl (f,t),_,_,rfl,rfl,by rw [length_append,hm];simp [bW],by rw [bo];exact (sQ tC _).symm,bp.symm⟩
   ·clear hm bo;rintro _ _ ⟨tC,m,rows,rfl,rfl,hm,bo,CH⟩;rw [UP,show (p.fns.zip trees).take p.fns.length=p.fns.zip trees from List.take_of_length_le (by simp;omega)] at CH;rw [<-CH] at hlen |-;refine aL ?_;refine GW.wk (Wk.gD (t:=9) rfl rfl rfl hm) ?_
    have YB:rows=tC.map fun c=>[.v (.int .u8 (c.toNat:Int))]:=bo
    exact av
end Go.Xg
namespace Go.Xg
open Go.RowKit Go.Xw Go.Proofs
open Go.Im (eO qu qv rM lh mu)
attribute [local irreducible] GW GL GO YG GC GA aS aW
theorem FI (a b:List ae) (ha:a.length<=1099511627776) (hb:b.length<=1099511627776):GF Tryz.prog 115 [strs a,strs b] [] (.v (.bool (eO (fun x y=>x==y) a b))) []:=by
 have jS:(a.map fun s=>[GV.v (sv s)]).length=a.length:=by simp
 have po:(b.map fun s=>[GV.v (sv s)]).length=b.length:=by simp
 by_cases hl:a.length=b.length
 ·have hd:(((a.map fun s=>[GV.v (sv s)]).length:Int) != ((b.map fun s=>[GV.v (sv s)]).length:Int))=false:=by rw [jS,po,hl];simp
  refine ai Tryz.func115 Tryz.ntmps115 ?_;refine GW.range (a.map fun s=>[GV.v (sv s)]).length (fun k fr Γ=>fr=[strs a,strs b,.Zy,.Zy,.Zy,.Zy,.Zy,.Zy,.Zy,.Zy,.Zy,.Zy,.v (ii ((a.map fun s=>[GV.v (sv s)]).length:Int)),.v (ii (k:Nat)),.Zy,.Zy,.Zy,.Zy,.Zy,.Zy,.Zy,.Zy,.Zy,.Zy,.Zy,.Zy]/\Γ=[]/\rM (fun x y=>x==y) a b k) ?_ ah ?_ ?_ ?_
  ·exact ⟨_,_,Wk.ax al,rfl,rfl,fun j x y h=>by omega⟩
  ·rintro k _ _ ⟨rfl,rfl,_⟩;exact ⟨rfl,rfl,rfl⟩
  ·rintro k _ _ aq ⟨rfl,rfl,jX⟩;rw [jS] at aq
   have mg:a[k]?=some a[k]:=by simp [aq]
   have oQ:k < b.length:=by omega
   have nq:b[k]?=some b[k]:=by simp [oQ]
   have DC:(a.map fun s=>[GV.v (sv s)])[k]?=some [GV.v (sv a[k])]:=by rw [getElem?_map,mg];rfl
   have DD:(b.map fun s=>[GV.v (sv s)])[k]?=some [GV.v (sv b[k])]:=by rw [getElem?_map,nq];rfl
   generalize a[k]=x at *;generalize b[k]=y at *
   cases iR:(x==y) with
   | true =>
    have hn:(x != y)=false:=by simp only [bne,iR];rfl
    have bI:(!(x==y))=false:=by rw [iR];rfl
    refine ab ?_;refine GW.draw (.q 0 (.q 1 (.q 2 (.q 3 (.q 4 (.q 5 (.q 6 (.q 7 (.q 8 .nil))))))))) (by kernel_rfl) (by kernel_rfl) ?_;refine aj ?_;refine ab ?_;exact ⟨rfl,rfl,_,_,Wk.ax al,rfl,rfl,lh mg nq jX iR⟩
   | false =>
    have hn:(x != y)=true:=by simp only [bne,iR];rfl
    have bI:(!(x==y))=true:=by rw [iR];rfl
    rw [qv mg nq (p:=fun x y=>x==y) iR];refine ab ?_;refine GW.draw (.q 0 (.q 1 (.q 2 (.q 3 (.q 4 (.q 5 (.q 6 (.q 7 (.q 8 .nil))))))))) (by kernel_rfl) (by kernel_rfl) ?_;refine aj ?_;exact av
  ·rintro _ _ ⟨rfl,rfl,jX⟩;rw [jS] at jX;rw [mu hl jX];exact av
 ·have hd:(((a.map fun s=>[GV.v (sv s)]).length:Int) != ((b.map fun s=>[GV.v (sv s)]).length:Int))=true:=by rw [jS,po];simpa using by omega
  rw [qu hl];refine ai Tryz.func115 Tryz.ntmps115 ?_;exact ao
theorem Pf (a b:List Int) (ha:a.length<=1099511627776) (hb:b.length<=1099511627776):GF Tryz.prog 147 [ints a,ints b] [] (.v (.bool (eO (fun x y=>x==y) a b))) []:=by
 have jS:(a.map fun s=>[GV.v (ii s)]).length=a.length:=by simp
 have po:(b.map fun s=>[GV.v (ii s)]).length=b.length:=by simp
 by_cases hl:a.length=b.length
 ·have hd:(((a.map fun s=>[GV.v (ii s)]).length:Int) != ((b.map fun s=>[GV.v (ii s)]).length:Int))=false:=by rw [jS,po,hl];simp
  refine ai Tryz.func147 Tryz.ntmps147 ?_;refine GW.range (a.map fun s=>[GV.v (ii s)]).length (fun k fr Γ=>fr=[ints a,ints b,.Zy,.Zy,.Zy,.Zy,.Zy,.Zy,.Zy,.Zy,.Zy,.Zy,.v (ii ((a.map fun s=>[GV.v (ii s)]).length:Int)),.v (ii (k:Nat)),.Zy,.Zy,.Zy,.Zy,.Zy,.Zy,.Zy,.Zy,.Zy,.Zy,.Zy,.Zy]/\Γ=[]/\rM (fun x y=>x==y) a b k) ?_ ah ?_ ?_ ?_
  ·exact ⟨_,_,Wk.ax al,rfl,rfl,fun j x y h=>by omega⟩
  ·rintro k _ _ ⟨rfl,rfl,_⟩;exact ⟨rfl,rfl,rfl⟩
  ·rintro k _ _ aq ⟨rfl,rfl,jX⟩;rw [jS] at aq
   have mg:a[k]?=some a[k]:=by simp [aq]
   have oQ:k < b.length:=by omega
   have nq:b[k]?=some b[k]:=by simp [oQ]
   have DC:(a.map fun s=>[GV.v (ii s)])[k]?=some [GV.v (ii a[k])]:=by rw [getElem?_map,mg];rfl
   have DD:(b.map fun s=>[GV.v (ii s)])[k]?=some [GV.v (ii b[k])]:=by rw [getElem?_map,nq];rfl
   generalize a[k]=x at *;generalize b[k]=y at *
   cases iR:(x==y) with
   | true =>
    have hn:(x != y)=false:=by simp only [bne,iR];rfl
    have bI:(!(x==y))=false:=by rw [iR];rfl
    refine ab ?_;refine GW.draw (.q 0 (.q 1 (.q 2 (.q 3 (.q 4 (.q 5 (.q 6 (.q 7 (.q 8 .nil))))))))) (by kernel_rfl) (by kernel_rfl) ?_;refine aj ?_;refine ab ?_;exact ⟨rfl,rfl,_,_,Wk.ax al,rfl,rfl,lh mg nq jX iR⟩
   | false =>
    have hn:(x != y)=true:=by simp only [bne,iR];rfl
    have bI:(!(x==y))=true:=by rw [iR];rfl
    rw [qv mg nq (p:=fun x y=>x==y) iR];refine ab ?_;refine GW.draw (.q 0 (.q 1 (.q 2 (.q 3 (.q 4 (.q 5 (.q 6 (.q 7 (.q 8 .nil))))))))) (by kernel_rfl) (by kernel_rfl) ?_;refine aj ?_;exact av
  ·rintro _ _ ⟨rfl,rfl,jX⟩;rw [jS] at jX;rw [mu hl jX];exact av
 ·have hd:(((a.map fun s=>[GV.v (ii s)]).length:Int) != ((b.map fun s=>[GV.v (ii s)]).length:Int))=true:=by rw [jS,po];simpa using by omega
  rw [qu hl];refine ai Tryz.func147 Tryz.ntmps147 ?_;exact ao
end Go.Xg
namespace Go.Xg
open Go.RowKit Go.Xw Go.Proofs
open Go.Xp (Nd)
open Go.Im (qm j0 eO qu qv rM lh mu)
attribute [local irreducible] GW GL GO YG GC GA aS aW
theorem NC (a b:Go.Sp.Fn) (ha:a.params.length<=1099511627776) (hb:b.params.length<=1099511627776):GF Tryz.prog 118 [.agg (au a),.agg (au b)] [] (.v (.bool (qm a b))) []:=by
 have he:=FI a.params b.params ha hb;unfold qm au
 cases h1:(a.name==b.name) with
 | false =>
  refine ai Tryz.func118 Tryz.ntmps118 ?_;exact ao
 | true =>
  cases h2:eO (fun x y=>x==y) a.params b.params with
  | false =>
   rw [h2] at he;refine ai Tryz.func118 Tryz.ntmps118 ?_;refine U [] (he) ?_;exact ao
  | true =>
   rw [h2] at he;refine ai Tryz.func118 Tryz.ntmps118 ?_;refine U [] (he) ?_;exact ao
theorem IM (a b:Nd) (ha:a.kids.length<=1099511627776) (hb:b.kids.length<=1099511627776):GF Tryz.prog 120 [.agg (aw a),.agg (aw b)] [] (.v (.bool (j0 a b))) []:=by
 have he:=Pf a.kids b.kids ha hb;unfold j0 aw;generalize eO (fun x y=>x==y) a.kids b.kids=q at *
 cases h1:(a.kind==b.kind) with
 | false =>
  refine ai Tryz.func120 Tryz.ntmps120 ?_;exact ao
 | true =>
  cases h2:(a.n==b.n) with
  | false =>
   refine ai Tryz.func120 Tryz.ntmps120 ?_;exact ao
  | true =>
   cases h3:(a.s==b.s) with
   | false =>
    refine ai Tryz.func120 Tryz.ntmps120 ?_;exact ao
   | true =>
    refine ai Tryz.func120 Tryz.ntmps120 ?_;refine U [] (he) ?_;exact ao
theorem EX (a b:List Go.Sp.Fn) (ha:a.length<=1099511627776) (hb:b.length<=1099511627776) (ka:∀ x∈a,x.params.length<=1099511627776) (kb:∀ x∈b,x.params.length<=1099511627776) :
  GF Tryz.prog 117 [.sl 3 (a.map au),.sl 3 (b.map au),.v (.func (.func 118) #[] #[])] [] (.v (.bool (eO qm a b))) []:=by
 have jS:(a.map au).length=a.length:=by simp
 have po:(b.map au).length=b.length:=by simp
 by_cases hl:a.length=b.length
 ·have hd:(((a.map au).length:Int) != ((b.map au).length:Int))=false:=by rw [jS,po,hl];simp
  refine ai Tryz.func117 Tryz.ntmps117 ?_;refine GW.range (a.map au).length (fun k fr Γ=>fr=[.Zy,.sl 3 (b.map au),.v (.func (.func 118) #[] #[]),.Zy,.Zy,.Zy,.Zy,.Zy,.Zy,.Zy,.Zy,.Zy,.Zy,.Zy,.Zy,.sl 3 (a.map au),.v (ii ((a.map au).length:Int)),.v (ii (k:Nat)),.Zy,.Zy,.Zy,.Zy,.Zy,.Zy,.Zy,.Zy,.Zy,.Zy,.Zy,.Zy,.Zy,.Zy]/\Γ=[]/\rM qm a b k) ?_ ah ?_ ?_ ?_
  ·exact ⟨_,_,Wk.ax al,rfl,rfl,fun j x y h=>by omega⟩
  ·rintro k _ _ ⟨rfl,rfl,_⟩;exact ⟨rfl,rfl,rfl⟩
  ·rintro k _ _ aq ⟨rfl,rfl,jX⟩;rw [jS] at aq
   have mg:a[k]?=some a[k]:=by simp [aq]
   have oQ:k < b.length:=by omega
   have nq:b[k]?=some b[k]:=by simp [oQ]
   have DC:(a.map au)[k]?=some (au a[k]):=by rw [getElem?_map,mg];rfl
   have DD:(b.map au)[k]?=some (au b[k]):=by rw [getElem?_map,nq];rfl
   have hs:=NC a[k] b[k] (ka _ (getElem_mem aq)) (kb _ (getElem_mem oQ));generalize a[k]=x at *;generalize b[k]=y at *;unfold au at DC DD hs
   cases iR:qm x y with
   | true =>
    rw [iR] at hs;refine ab ?_;refine gR [] (hs) ?_;refine ab ?_;exact ⟨rfl,rfl,_,_,(Wk.cut (n:=0) (Nat.le_refl _) rfl).trans (Wk.ax al),rfl,rfl,lh mg nq jX iR⟩
   | false =>
    rw [iR] at hs;rw [qv mg nq (p:=qm) iR];refine ab ?_;refine gR [] (hs) ?_;exact av
  ·rintro _ _ ⟨rfl,rfl,jX⟩;rw [jS] at jX;rw [mu hl jX];exact av
 ·have hd:(((a.map au).length:Int) != ((b.map au).length:Int))=true:=by rw [jS,po];simpa using by omega
  rw [qu hl];refine ai Tryz.func117 Tryz.ntmps117 ?_;exact ao
theorem EY (a b:List Nd) (ha:a.length<=1099511627776) (hb:b.length<=1099511627776) (ka:∀ x∈a,x.kids.length<=1099511627776) (kb:∀ x∈b,x.kids.length<=1099511627776) :
  GF Tryz.prog 119 [.sl 5 (a.map aw),.sl 5 (b.map aw),.v (.func (.func 120) #[] #[])] [] (.v (.bool (eO j0 a b))) []:=by
 have jS:(a.map aw).length=a.length:=by simp
 have po:(b.map aw).length=b.length:=by simp
 by_cases hl:a.length=b.length
 ·have hd:(((a.map aw).length:Int) != ((b.map aw).length:Int))=false:=by rw [jS,po,hl];simp
  refine ai Tryz.func119 Tryz.ntmps119 ?_;refine GW.range (a.map aw).length (fun k fr Γ=>fr=[.Zy,.sl 5 (b.map aw),.v (.func (.func 120) #[] #[]),.Zy,.Zy,.Zy,.Zy,.Zy,.Zy,.Zy,.Zy,.Zy,.Zy,.Zy,.Zy,.sl 5 (a.map aw),.v (ii ((a.map aw).length:Int)),.v (ii (k:Nat)),.Zy,.Zy,.Zy,.Zy,.Zy,.Zy,.Zy,.Zy,.Zy,.Zy,.Zy,.Zy,.Zy,.Zy]/\Γ=[]/\rM j0 a b k) ?_ ah ?_ ?_ ?_
  ·exact ⟨_,_,Wk.ax al,rfl,rfl,fun j x y h=>by omega⟩
  ·rintro k _ _ ⟨rfl,rfl,_⟩;exact ⟨rfl,rfl,rfl⟩
  ·rintro k _ _ aq ⟨rfl,rfl,jX⟩;rw [jS] at aq
   have mg:a[k]?=some a[k]:=by simp [aq]
   have oQ:k < b.length:=by omega
   have nq:b[k]?=some b[k]:=by simp [oQ]
   have DC:(a.map aw)[k]?=some (aw a[k]):=by rw [getElem?_map,mg];rfl
   have DD:(b.map aw)[k]?=some (aw b[k]):=by rw [getElem?_map,nq];rfl
   have hs:=IM a[k] b[k] (ka _ (getElem_mem aq)) (kb _ (getElem_mem oQ));generalize a[k]=x at *;generalize b[k]=y at *;unfold aw at DC DD hs
   cases iR:j0 x y with
   | true =>
    rw [iR] at hs;refine ab ?_;refine gR [] (hs) ?_;refine ab ?_;exact ⟨rfl,rfl,_,_,(Wk.cut (n:=0) (Nat.le_refl _) rfl).trans (Wk.ax al),rfl,rfl,lh mg nq jX iR⟩
   | false =>
    rw [iR] at hs;rw [qv mg nq (p:=j0) iR];refine ab ?_;refine gR [] (hs) ?_;exact av
  ·rintro _ _ ⟨rfl,rfl,jX⟩;rw [jS] at jX;rw [mu hl jX];exact av
 ·have hd:(((a.map aw).length:Int) != ((b.map aw).length:Int))=true:=by rw [jS,po];simpa using by omega
  rw [qu hl];refine ai Tryz.func119 Tryz.ntmps119 ?_;exact ao
end Go.Xg
namespace Go.Xg
open Go.RowKit Go.Xw Go.Proofs
open Go.Xp (Nd Ar)
open Go.Im (xT eO qu qv rM lh mu)
theorem Tq (w:World) (s s':ae) (n n':Int):(Op.equalIn 10000 86 (.agg #[sv s,ii n]) (.agg #[sv s',ii n'])).run Tryz.prog w=.ok ((s==s')&&(n==n')) w:=by
 have hf:(Tryz.prog.fieldsOf 86).toList=[(Tryz.prog.fieldsOf 86)[0]!,(Tryz.prog.fieldsOf 86)[1]!]:=by kernel_rfl
 have a0:((Tryz.prog.fieldsOf 86)[0]!).type=9:=by kernel_rfl
 have a1:((Tryz.prog.fieldsOf 86)[1]!).type=3:=by kernel_rfl
 have b0:((Tryz.prog.fieldsOf 86)[0]!).offset=0:=by kernel_rfl
 have b1:((Tryz.prog.fieldsOf 86)[1]!).offset=1:=by kernel_rfl
 have c0:((Tryz.prog.fieldsOf 86)[0]!).name = "Name" := by kernel_rfl
 have c1:((Tryz.prog.fieldsOf 86)[1]!).name = "Size" := by kernel_rfl
 rw [show (10000:Nat)=9999+1 from rfl,run_equalIn_agg w 9999 _ _ _ (by kernel_rfl) (by kernel_rfl),hf];generalize (Tryz.prog.fieldsOf 86)[0]! = f0 at *;generalize (Tryz.prog.fieldsOf 86)[1]! = f1 at *
 have hs:Tryz.prog.underlying 9=some .string:=by kernel_rfl
 have hi:Tryz.prog.underlying 3=some (.int .i64):=by kernel_rfl
 have p0:∀ (a:ae) (b:Int) w,(part f0.type #[sv a,ii b] f0.offset).run Tryz.prog w=.ok (sv a) w:=fun a b w=>by
  rw [a0,b0];rfl
 have p1:∀ (a:ae) (b:Int) w,(part f1.type #[sv a,ii b] f1.offset).run Tryz.prog w=.ok (ii b) w:=fun a b w=>by
  rw [a1,b1];rfl
 have e0:∀ w,(Op.equalIn 9999 f0.type (sv s) (sv s')).run Tryz.prog w=.ok (s==s') w:=fun w=>by
  rw [a0,show (9999:Nat)=9998+1 from rfl];have:=run_equalIn_string (P:=Tryz.prog) w 9998 9 ⟨s.toArray⟩ ⟨s'.toArray⟩ hs;rw [show sv s=.string ⟨s.toArray⟩ from rfl,show sv s'=.string ⟨s'.toArray⟩ from rfl,this];simp [toList_mk]
 have e1:∀ w,(Op.equalIn 9999 f1.type (ii n) (ii n')).run Tryz.prog w=.ok (n==n') w:=fun w=>by
  rw [a1,show (9999:Nat)=9998+1 from rfl];exact run_equalIn_int (P:=Tryz.prog) w 9998 3 .i64 .i64 n n' hi
 have n0:f0.name ≠ "_" := by rw [c0];decide
 have n1:f1.name ≠ "_" := by rw [c1];decide
 rw [Op.eqFields,if_pos n0];simp only [Sem.run_bind,p0,Result.andThen_ok,e0]
 cases s==s' with
 | false=>simp
 | true =>
  simp only [Bool.not_true,Bool.false_eq_true,if_false,Bool.true_and];rw [Op.eqFields,if_pos n1];simp only [Sem.run_bind,p1,Result.andThen_ok,e1]
  cases n==n' with
  | false=>simp
  | true=>simp [Op.eqFields]
theorem YG.Su {fr:List GV} {Γ:List Ob} {x y:Operand} {t':TypeId} {s s':ae} {n n':Int} (hx:aP fr x=.agg [.v (sv s),.v (ii n)]) (hy:aP fr y=.agg [.v (sv s'),.v (ii n')]) :
  YG Tryz.prog (.binOp .neq 86 x y t') fr Γ (.v (.bool (!((s==s')&&(n==n'))))):=fun B K β w l hI hF=>by
 have two:∀ {v:Value} {a b:Value},Rel K β v (.agg [.v a,.v b])->v=.agg #[a,b]:=fun {v a b} h=>by
  cases h with
  | agg vs _ hl hh =>
   match vs,hl with
   | [u1,u2],_ =>
    have h1:=Rel.eT (hh 0 u1 (.v a) rfl rfl);have h2:=Rel.eT (hh 1 u2 (.v b) rfl rfl);rw [h1,h2]
 have qC:=two (by rw [<-hx];exact hF.ev x);have Sa:=two (by rw [<-hy];exact hF.ev y);refine ⟨_,fun d ty pos af=>?_,.v _⟩;have hg:=run_eqGuard_agg (P:=Tryz.prog) w .neq 86 x y #[sv s,ii n] #[sv s',ii n'] (by kernel_rfl);have hn:=run_neq_struct (P:=Tryz.prog) w 86 #[sv s,ii n] #[sv s',ii n'];rw [Tq,Result.andThen_ok] at hn;simp [execOp,qC,Sa,hg,hn]
attribute [local irreducible] GW GL GO YG GC GA aS aW
theorem Pe (a b:List Ar) (ha:a.length<=1099511627776) (hb:b.length<=1099511627776):GF Tryz.prog 116 [(.sl 2 (a.map fun s=>az s)),(.sl 2 (b.map fun s=>az s))] [] (.v (.bool (eO xT a b))) []:=by
 have jS:(a.map fun s=>az s).length=a.length:=by simp
 have po:(b.map fun s=>az s).length=b.length:=by simp
 by_cases hl:a.length=b.length
 ·have hd:(((a.map fun s=>az s).length:Int) != ((b.map fun s=>az s).length:Int))=false:=by rw [jS,po,hl];simp
  refine ai Tryz.func116 Tryz.ntmps116 ?_;refine GW.range (a.map fun s=>az s).length (fun k fr Γ=>fr=[(.sl 2 (a.map fun s=>az s)),(.sl 2 (b.map fun s=>az s)),.Zy,.Zy,.Zy,.Zy,.Zy,.Zy,.Zy,.Zy,.Zy,.Zy,.v (ii ((a.map fun s=>az s).length:Int)),.v (ii (k:Nat)),.Zy,.Zy,.Zy,.Zy,.Zy,.Zy,.Zy,.Zy,.Zy,.Zy,.Zy,.Zy]/\Γ=[]/\rM xT a b k) ?_ ah ?_ ?_ ?_
  ·exact ⟨_,_,Wk.ax al,rfl,rfl,fun j x y h=>by omega⟩
  ·rintro k _ _ ⟨rfl,rfl,_⟩;exact ⟨rfl,rfl,rfl⟩
  ·rintro k _ _ aq ⟨rfl,rfl,jX⟩;rw [jS] at aq
   have mg:a[k]?=some a[k]:=by simp [aq]
   have oQ:k < b.length:=by omega
   have nq:b[k]?=some b[k]:=by simp [oQ]
   have DC:(a.map fun s=>az s)[k]?=some (az a[k]):=by rw [getElem?_map,mg];rfl
   have DD:(b.map fun s=>az s)[k]?=some (az b[k]):=by rw [getElem?_map,nq];rfl
   generalize a[k]=x at *;generalize b[k]=y at *;unfold az at DC DD
   cases iR:xT x y with
   | true =>
    have bI:(!((x.name==y.name)&&(x.size==y.size)))=false:=by rw [show ((x.name==y.name)&&(x.size==y.size))=xT x y from rfl,iR];rfl
    refine ab ?_;refine GW.draw (.q 0 (.q 1 (.q 2 (.q 3 (.q 4 (.q 5 (.q 6 (.q 7 (.q 8 .nil))))))))) (by kernel_rfl) (by kernel_rfl) ?_;refine aj ?_;apply OP
    ·exact rfl
    ·intro Γ;exact YG.Su rfl rfl
    refine Pa ?_;refine aj ?_;refine ab ?_;exact ⟨rfl,rfl,_,_,Wk.ax al,rfl,rfl,lh mg nq jX iR⟩
   | false =>
    have bI:(!((x.name==y.name)&&(x.size==y.size)))=true:=by rw [show ((x.name==y.name)&&(x.size==y.size))=xT x y from rfl,iR];rfl
    rw [qv mg nq (p:=xT) iR];refine ab ?_;refine GW.draw (.q 0 (.q 1 (.q 2 (.q 3 (.q 4 (.q 5 (.q 6 (.q 7 (.q 8 .nil))))))))) (by kernel_rfl) (by kernel_rfl) ?_;refine aj ?_;apply OP
    ·exact rfl
    ·intro Γ;exact YG.Su rfl rfl
    refine Pa ?_;refine aj ?_;exact av
  ·rintro _ _ ⟨rfl,rfl,jX⟩;rw [jS] at jX;rw [mu hl jX];exact av
 ·have hd:(((a.map fun s=>az s).length:Int) != ((b.map fun s=>az s).length:Int))=true:=by rw [jS,po];simpa using by omega
  rw [qu hl];refine ai Tryz.func116 Tryz.ntmps116 ?_;exact ao
end Go.Xg
set_option maxHeartbeats 1000000
namespace Go.Xg
open Go.RowKit Go.Xw Go.Proofs
open Go.Xp (Tok Nd T bc one levels fR dI dW dm c7 nE)
open Go.Sp Go.Im
attribute [local irreducible] GW GL GO YG GC GA aS aW
structure FJ (f:Nat):Prop where
 expr:∀ d p t q x,p.ok->d+f<=1099511627776->iE f (.expr d) p=some (t,q)->GF Tryz.prog 229 [.loc 0 0,.v (ii (d:Nat))] [bF p x] (qT t) [bF q x]
 level:∀ k d p t q x,p.ok->k<=9->d+f<=1099511627776->iE f (.level k d) p=some (t,q)->GF Tryz.prog 242 [.loc 0 0,.v (ii (k:Nat)),.v (ii (d:Nat))] [bF p x] (qT t) [bF q x]
 operand:∀ d p t q x,p.ok->d+f<=1099511627776->iE f (.operand d) p=some (t,q)->GF Tryz.prog 248 [.loc 0 0,.v (ii (d:Nat))] [bF p x] (qT t) [bF q x]
 exprs:∀ d p l q x,p.ok->d+f<=1099511627776->iA f d [] p=some (l,q)->GF Tryz.prog 252 [.loc 0 0,.v (ii (d:Nat))] [bF p x] (.sl 1 (jB l)) [bF q x]
theorem ET:GF Tryz.prog 211 [.v (ii 0),.v (ii 0),.v (sv []),.sl 1 []] [] (qT T.zero) []:=eg 0 0 [] [] [] rfl
theorem QY {f:Nat} (C:FJ f) (d:Nat) (p:RS) (t:T) (q:RS) (x:PX) (hp:p.ok) (hd:d+(f+1)<=1099511627776) (h:iE (f+1) (.expr d) p=some (t,q)) :
  GF Tryz.prog 229 [.loc 0 0,.v (ii (d:Nat))] [bF p x] (qT t) [bF q x]:=by
 rw [iE] at h;have dC:=vd p d x hp
 by_cases hc:(bG p d).code=0
 ·have dj:((bG p d).code==0)=true:=by simpa using hc
  rw [if_pos hc] at h;rw [dj] at dC;rw [nJ hc] at h dC;have hl:=C.level 0 (d+1) p t q x hp ah ah h;refine ai Tryz.func229 Tryz.ntmps229 ?_;refine U [0] (dC) ?_;refine U [0] (hl) ?_;exact ao
 ·have dj:((bG p d).code==0)=false:=by simpa using hc
  rw [if_neg hc] at h;rw [dj] at dC;cases h;refine ai Tryz.func229 Tryz.ntmps229 ?_;refine U [0] (dC) ?_;refine U [] (ET) ?_;exact ao
theorem P0 {f:Nat} (C:∀ f',f'<=f->FJ f') (k d:Nat) (p:RS) (t:T) (q:RS) (x:PX) (hp:p.ok) (hk:k<=9) (hd:d+(f+1)<=1099511627776) (h:iE (f+1) (.level k d) p=some (t,q)) :
  GF Tryz.prog 242 [.loc 0 0,.v (ii (k:Nat)),.v (ii (d:Nat))] [bF p x] (qT t) [bF q x]:=by
 rw [iE] at h
 by_cases zD:k=9
 ·subst zD;rw [if_pos rfl] at h;have ho:=(C f (Nat.le_refl _)).operand d p t q x hp ah h;refine ai Tryz.func242 Tryz.ntmps242 ?_;refine U [] (sn) ?_;refine U [0] (ho) ?_;exact ao
 ·rw [if_neg zD] at h
  have VV:((k:Int)==9)=false:=by simp;omega
  cases he:iE f (.level (k+1) d) p with
  | none=>rw [he] at h;cases h
  | some r =>
   obtain ⟨out,p1⟩:=r;rw [he] at h;simp only at h;have jT:=((ik f).1 _ _ _ _ hp he).ok hp;have hl:=(C f (Nat.le_refl _)).level (k+1) d p out p1 x hp ah ah he;refine ai Tryz.func242 Tryz.ntmps242 ?_;refine U [] (sn) ?_;refine U [0] (hl) ?_;refine GW.loop (fun z:Nat × T × RS=>z.1) (fun z fr Γ=>fr=[.loc 0 0,.v (ii (k:Nat)),.v (ii (d:Nat)),.Zy,.Zy,.Zy,.Zy,qT z.2.1,.Zy,.Zy,.Zy,.Zy,.Zy,.Zy,.Zy,.Zy,.Zy,.Zy,.Zy,.Zy,.Zy,.Zy,.Zy,.Zy,.Zy,.Zy,.Zy,.Zy,.Zy,.Zy,.Zy,.Zy,.Zy,.Zy,.Zy,.Zy,.Zy,.Zy,.Zy,.Zy,.Zy,.Zy,.Zy,.Zy,.Zy,.Zy,.Zy,.Zy,.Zy,.Zy,.Zy,.Zy,.Zy,.Zy,.Zy,.Zy,.Zy,.Zy,.Zy,.Zy,.Zy,.Zy,.Zy,.Zy]/\Γ=[bF z.2.2 x]/\z.2.2.ok/\z.1<=f/\iE z.1 (.loop k d z.2.1) z.2.2=some (t,q)) (f,out,p1) ?_ ?_
   ·exact ⟨_,_,Wk.ax al,rfl,rfl,jT,Nat.le_refl _,h⟩
   ·clear h he hl;rintro ⟨g,out,p⟩ _ _ ⟨rfl,rfl,hp,Kp,h⟩;simp only at hp Kp h
    cases g with
    | zero=>simp [iE] at h
    | succ g =>
    rw [iE] at h
    have hk:k < 9:=by omega
    have ht:=qo p 0 x hp (by decide)
    by_cases hc:p.code=0
    ·have dj:(p.code==0)=true:=by simpa using hc
     by_cases h3:(tok p 0).kind=3
     ·have jx:((tok p 0).kind==3)=true:=by simpa using h3
      have Gn:=GQ hk;have OB:=iH (levels.getD k []) (tok p 0).s (A1 k hk)
      by_cases hit:(levels.getD k []).contains (tok p 0).s=true
      ·rw [if_pos ⟨hc,h3,hit⟩] at h;rw [hit] at OB;have aq:p.i < p.l.length:=qJ (k:=0) ah;have cJ:=hp.2
       cases hb:iE g (.level (k+1) d) p.next with
       | none=>rw [hb] at h;cases h
       | some r =>
        obtain ⟨b,p2⟩:=r;rw [hb] at h;simp only at h;have cR:=(dp aq).ok hp;have dD:=((ik g).1 _ _ _ _ cR hb).ok cR
        have jR:=(C g ah).level (k+1) d p.next b p2 x cR ah ah hb
        generalize tok p 0=tk at *;have gI:=eg 6 tk.at_ tk.s [out,b] [[qT out],[qT b]] (fL _);refine ab ?_;refine GW.draw (.q 0 (.q 1 (.q 2 (.q 3 (.q 4 (.q 5 (.q 6 (.a 7 (.q 8 (.q 9 (.q 10 (.q 11 (.q 13 (.q 16 (.a 12 (.q 14 (.q 15 (.a 17 (.q 18 (.a 19 (.q 20 .nil))))))))))))))))))))) (by kernel_rfl) (by kernel_rfl) ?_;refine aj ?_;refine bz [0] (ht) ?_;refine bz [] (sn) ?_;refine bz [0] (ht) ?_;refine bz [] (OB) ?_;refine ab ?_;refine U [0] (ht) ?_;refine GW.draw (.q 0 (.q 1 (.q 2 (.q 3 (.q 4 (.q 5 (.q 6 (.q 7 (.q 8 (.a 9 (.a 10 (.a 11 (.q 12 .nil))))))))))))) (by kernel_rfl) (by kernel_rfl) ?_;refine aj ?_;refine aC [0] (jR) ?_;refine dv ?_;refine aj ?_;refine aC [] (gI) ?_;refine ab ?_;exact ⟨(g,one 6 tk.at_ tk.s [out,b],p2),⟨_,_,(Wk.cut (n:=1) (Nat.le_of_ble_eq_true rfl) rfl).trans (Wk.ax al),rfl,rfl,dD,by omega,h⟩,by simp⟩
      ·have hit:(levels.getD k []).contains (tok p 0).s=false:=by simpa using hit
       rw [if_neg (by rw [hit];simp)] at h
       obtain ⟨rfl,rfl⟩:out=t/\p=q:=by simpa using h
       rw [hit] at OB;generalize tok p 0=tk at *;refine ab ?_;refine GW.draw (.q 0 (.q 1 (.q 2 (.q 3 (.q 4 (.q 5 (.q 6 (.a 7 (.q 8 (.q 9 (.q 10 (.q 11 (.q 13 (.q 16 (.a 12 (.q 14 (.q 15 (.a 17 (.q 18 (.a 19 (.q 20 .nil))))))))))))))))))))) (by kernel_rfl) (by kernel_rfl) ?_;refine aj ?_;refine bz [0] (ht) ?_;refine bz [] (sn) ?_;refine bz [0] (ht) ?_;refine bz [] (OB) ?_;refine ab ?_;refine aU ?_;exact av
     ·have jx:((tok p 0).kind==3)=false:=by simpa using h3
      rw [if_neg (fun hh=>h3 hh.2.1)] at h
      obtain ⟨rfl,rfl⟩:out=t/\p=q:=by simpa using h
      generalize tok p 0=tk at *;refine ab ?_;refine GW.draw (.q 0 (.q 1 (.q 2 (.q 3 (.q 4 (.q 5 (.q 6 (.a 7 (.q 8 (.q 9 (.q 10 (.q 11 (.q 13 (.q 16 (.a 12 (.q 14 (.q 15 (.a 17 (.q 18 (.a 19 (.q 20 .nil))))))))))))))))))))) (by kernel_rfl) (by kernel_rfl) ?_;refine aj ?_;refine bz [0] (ht) ?_;refine ab ?_;refine aU ?_;exact av
    ·have dj:(p.code==0)=false:=by simpa using hc
     rw [if_neg (fun hh=>hc hh.1)] at h
     obtain ⟨rfl,rfl⟩:out=t/\p=q:=by simpa using h
     refine ab ?_;refine GW.draw (.q 0 (.q 1 (.q 2 (.q 3 (.q 4 (.q 5 (.q 6 (.a 7 (.q 8 (.q 9 (.q 10 (.q 11 (.q 13 (.q 16 (.a 12 (.q 14 (.q 15 (.a 17 (.q 18 (.a 19 (.q 20 .nil))))))))))))))))))))) (by kernel_rfl) (by kernel_rfl) ?_;refine aj ?_;refine ab ?_;refine aU ?_;exact av
theorem PB {f:Nat} (C:∀ f',f'<=f->FJ f') (d:Nat) (p:RS) (l:List T) (q:RS) (x:PX) (hp:p.ok) (hd:d+(f+1)<=1099511627776) (h:iA (f+1) d [] p=some (l,q)) :
  GF Tryz.prog 252 [.loc 0 0,.v (ii (d:Nat))] [bF p x] (.sl 1 (jB l)) [bF q x]:=by
 refine ai Tryz.func252 Tryz.ntmps252 ?_;refine GW.wk (Wk.A6 (t:=5) (a:=none) (c:=0) 123 1 rfl) ?_;refine GW.loop (fun z:Nat × List T × RS=>z.1) (fun z fr Γ=>∃ n rows,fr=[.loc 0 0,.v (ii (d:Nat)),.Zy,.Zy,.Zy,.vec 1 n,.Zy,.Zy,.Zy,.Zy,.Zy,.Zy,.Zy,.Zy,.Zy,.Zy,.Zy,.Zy,.Zy,.Zy,.Zy,.Zy,.Zy,.Zy,.Zy,.Zy,.Zy,.Zy,.Zy,.Zy,.Zy,.Zy]/\Γ=[bF z.2.2 x,.vec 123 1 0 rows]/\rows.length=n/\rows=jB z.2.1/\n+z.1<=f+1/\z.2.2.ok/\iA z.1 d z.2.1 z.2.2=some (l,q)) (f+1,[],p) ?_ ?_
 ·exact ⟨_,_,Wk.ax al,0,[],rfl,rfl,rfl,rfl,by simp,hp,h⟩
 ·clear h hp;rintro ⟨g,acc,p⟩ _ _ ⟨n,rows,rfl,rfl,hn,bo,x9,hp,h⟩;simp only at bo x9 hp h
  cases g with
  | zero=>simp [iA] at h
  | succ g =>
  rw [iA] at h;have hi:=jk p 0 [41] x hp (by decide)
  have ku:acc.length=n:=by rw [<-hn,bo,lT]
  by_cases hc:p.code=0
  ·have dj:(p.code==0)=true:=by simpa using hc
   cases hs:is p 0 [41] with
   | true =>
    rw [hs] at hi;rw [if_neg (fun hh=>by have:=hh.2;rw [hs] at this;cases this)] at h
    obtain ⟨rfl,rfl⟩:acc=l/\want p [41]=q:=by simpa using h
    have hw:=eA p [41] x hp;subst bo;refine ab ?_;refine U [0] (hi) ?_;refine aU ?_;refine ab ?_;refine bJ ?_;refine ab ?_;refine U [0] (hw) ?_;refine GW.wk (Wk.gD (t:=4) rfl rfl rfl hn) ?_;exact ao
   | false =>
    rw [hs] at hi;rw [if_pos ⟨hc,hs⟩] at h
    by_cases h0:acc.length=0
    ·rw [if_pos h0] at h
     have rS:decide ((0:Int) < (n:Int))=false:=by simpa using by omega
     cases hb:iE g (.expr d) p with
     | none=>rw [hb] at h;cases h
     | some r =>
      obtain ⟨a,p2⟩:=r;rw [hb] at h;simp only at h;have dD:=((ik g).1 _ _ _ _ hp hb).ok hp;have he:=(C g ah).expr d p a p2 x hp ah hb;refine ab ?_;refine U [0] (hi) ?_;refine U [0] (he) ?_;refine dX ?_;refine ab ?_;exact ⟨(g,acc++[a],p2),⟨_,_,Wk.ax al,_,_,rfl,rfl,by simp [hn],by rw [uK,bo],by show n+1+g<=f+1;omega,dD,h⟩,by simp⟩
    ·rw [if_neg h0] at h
     have rS:decide ((0:Int) < (n:Int))=true:=by simpa using by omega
     have ln:=(bU hp [44]).ok hp;have hw:=eA p [44] x hp
     cases hb:iE g (.expr d) (want p [44]) with
     | none=>rw [hb] at h;cases h
     | some r =>
      obtain ⟨a,p2⟩:=r;rw [hb] at h;simp only at h;have dD:=((ik g).1 _ _ _ _ ln hb).ok ln;have he:=(C g ah).expr d _ a p2 x ln ah hb;refine ab ?_;refine U [0] (hi) ?_;refine bJ ?_;refine ab ?_;refine U [0] (hw) ?_;refine U [0] (he) ?_;refine dX ?_;refine ab ?_;exact ⟨(g,acc++[a],p2),⟨_,_,Wk.ax al,_,_,rfl,rfl,by simp [hn],by rw [uK,bo],by show n+1+g<=f+1;omega,dD,h⟩,by simp⟩
  ·have dj:(p.code==0)=false:=by simpa using hc
   rw [if_neg (fun hh=>hc hh.1)] at h
   obtain ⟨rfl,rfl⟩:acc=l/\want p [41]=q:=by simpa using h
   have hw:=eA p [41] x hp;subst bo;refine ab ?_;refine aU ?_;refine ab ?_;refine bJ ?_;refine ab ?_;refine U [0] (hw) ?_;refine GW.wk (Wk.gD (t:=4) rfl rfl rfl hn) ?_;exact ao
end Go.Xg
namespace Go.Xg
open Go.RowKit Go.Xw Go.Proofs
open Go.Xp (Tok Nd T bc one levels fR dI dW dm c7 nE)
open Go.Sp Go.Im
attribute [local irreducible] GW GL GO YG GC GA aS aW
theorem Ln {f:Nat} (C:FJ f) (d:Nat) (p:RS) (t:T) (q:RS) (x:PX) (hp:p.ok) (hd:d+(f+1)<=1099511627776) (h:iE (f+1) (.operand d) p=some (t,q)) :
  GF Tryz.prog 248 [.loc 0 0,.v (ii (d:Nat))] [bF p x] (qT t) [bF q x]:=by
 rw [iE] at h;have dC:=vd p d x hp;have ht:=qo p 0 x hp (by decide)
 by_cases hc:(bG p d).code=0
 case neg =>
  have dj:((bG p d).code==0)=false:=by simpa using hc
  rw [if_neg hc] at h;rw [dj] at dC;cases h;refine ai Tryz.func248 Tryz.ntmps248 ?_;refine U [0] (ht) ?_;refine U [0] (dC) ?_;refine U [] (ET) ?_;exact ao
 case pos =>
 have dj:((bG p d).code==0)=true:=by simpa using hc
 rw [if_pos hc] at h;rw [dj,nJ hc] at dC;clear hc dj;have h1:=jk p 0 [45] x hp (by decide);have h2:=jk p 0 [33] x hp (by decide);have h3:=jk p 0 [126] x hp (by decide);have cJ:=hp.2;have BR:=hp.1
 cases fH:is p 0 [45] with
 | true =>
  rw [fH] at h1;rw [if_pos (.inl fH)] at h;have aq:p.i < p.l.length:=is_lt (k:=0) fH;have cR:=(dp aq).ok hp
  cases hb:iE f (.operand (d+1)) p.next with
  | none=>rw [hb] at h;cases h
  | some r =>
   obtain ⟨b,p2⟩:=r;rw [hb] at h;cases h
   have wG:=C.operand (d+1) p.next b _ x cR ah hb
   generalize tok p 0=tk at *;have gI:=eg 5 tk.at_ tk.s [b] [[qT b]] (fL _);refine ai Tryz.func248 Tryz.ntmps248 ?_;refine U [0] (ht) ?_;refine U [0] (dC) ?_;refine U [0] (h1) ?_;refine GW.draw (.q 0 (.q 1 (.q 2 (.q 3 (.q 4 (.q 5 (.q 6 (.a 7 (.a 8 (.a 9 (.q 10 .nil))))))))))) (by kernel_rfl) (by kernel_rfl) ?_;refine aj ?_;refine aC [0] (wG) ?_;refine dv ?_;refine aj ?_;refine aC [] (gI) ?_;exact av
 | false =>
 rw [fH] at h1
 cases iQ:is p 0 [33] with
 | true =>
  rw [iQ] at h2;rw [if_pos (.inr (.inl iQ))] at h;have aq:p.i < p.l.length:=is_lt (k:=0) iQ;have cR:=(dp aq).ok hp
  cases hb:iE f (.operand (d+1)) p.next with
  | none=>rw [hb] at h;cases h
  | some r =>
   obtain ⟨b,p2⟩:=r;rw [hb] at h;cases h
   have wG:=C.operand (d+1) p.next b _ x cR ah hb
   generalize tok p 0=tk at *;have gI:=eg 5 tk.at_ tk.s [b] [[qT b]] (fL _);refine ai Tryz.func248 Tryz.ntmps248 ?_;refine U [0] (ht) ?_;refine U [0] (dC) ?_;refine U [0] (h1) ?_;refine U [0] (h2) ?_;refine GW.draw (.q 0 (.q 1 (.q 2 (.q 3 (.q 4 (.q 5 (.q 6 (.a 7 (.a 8 (.a 9 (.q 10 .nil))))))))))) (by kernel_rfl) (by kernel_rfl) ?_;refine aj ?_;refine aC [0] (wG) ?_;refine dv ?_;refine aj ?_;refine aC [] (gI) ?_;exact av
 | false =>
 rw [iQ] at h2
 cases qX:is p 0 [126] with
 | true =>
  rw [qX] at h3;rw [if_pos (.inr (.inr qX))] at h;have aq:p.i < p.l.length:=is_lt (k:=0) qX;have cR:=(dp aq).ok hp
  cases hb:iE f (.operand (d+1)) p.next with
  | none=>rw [hb] at h;cases h
  | some r =>
   obtain ⟨b,p2⟩:=r;rw [hb] at h;cases h
   have wG:=C.operand (d+1) p.next b _ x cR ah hb
   generalize tok p 0=tk at *;have gI:=eg 5 tk.at_ tk.s [b] [[qT b]] (fL _);refine ai Tryz.func248 Tryz.ntmps248 ?_;refine U [0] (ht) ?_;refine U [0] (dC) ?_;refine U [0] (h1) ?_;refine U [0] (h2) ?_;refine U [0] (h3) ?_;refine GW.draw (.q 0 (.q 1 (.q 2 (.q 3 (.q 4 (.q 5 (.q 6 (.a 7 (.a 8 (.a 9 (.q 10 .nil))))))))))) (by kernel_rfl) (by kernel_rfl) ?_;refine aj ?_;refine aC [0] (wG) ?_;refine dv ?_;refine aj ?_;refine aC [] (gI) ?_;exact av
 | false =>
 rw [qX] at h3;rw [if_neg (by rw [fH,iQ,qX];decide)] at h
 by_cases hk:(tok p 0).kind=1
 case pos =>
  rw [if_pos hk] at h;have aq:p.i < p.l.length:=qJ (k:=0) ah
  have kP:((tok p 0).kind==1)=true:=by simpa using hk
  cases h;generalize tok p 0=tk at *;have gI:=Lj 1 tk.at_ [] [];refine ai Tryz.func248 Tryz.ntmps248 ?_;refine U [0] (ht) ?_;refine U [0] (dC) ?_;refine U [0] (h1) ?_;refine U [0] (h2) ?_;refine U [0] (h3) ?_;refine U [] (gI) ?_;refine GW.wk (Wk.freeze (i:=2) rfl rfl rfl (Nat.le_of_ble_eq_true rfl)) ?_;exact ao
 case neg =>
 rw [if_neg hk] at h
 have kP:((tok p 0).kind==1)=false:=by simpa using hk
 have h4:=jk p 0 [40] x hp (by decide)
 cases vS:is p 0 [40] with
 | true =>
  rw [vS] at h4;rw [if_pos vS] at h;have aq:p.i < p.l.length:=is_lt (k:=0) vS;have cR:=(dp aq).ok hp
  cases hb:iE f (.expr (d+1)) p.next with
  | none=>rw [hb] at h;cases h
  | some r =>
   obtain ⟨b,p2⟩:=r;rw [hb] at h;cases h;have dD:=((ik f).1 _ _ _ _ cR hb).ok cR
   have wG:=C.expr (d+1) p.next _ p2 x cR ah hb
   have hw:=eA p2 [41] x dD;generalize tok p 0=tk at *;refine ai Tryz.func248 Tryz.ntmps248 ?_;refine U [0] (ht) ?_;refine U [0] (dC) ?_;refine U [0] (h1) ?_;refine U [0] (h2) ?_;refine U [0] (h3) ?_;refine U [0] (h4) ?_;refine U [0] (wG) ?_;refine bJ ?_;refine ab ?_;refine U [0] (hw) ?_;exact ao
 | false =>
 rw [vS] at h4;rw [if_neg (by rw [vS];decide)] at h;have hn:=pU p x hp;have cR:=(gm hp).ok hp
 by_cases lk:(bf p).code=0
 case neg =>
  rw [if_neg lk] at h
  have VL:((bf p).code != 0)=true:=by simpa using lk
  cases h;generalize tok p 0=tk at *;generalize bf p=p1 at *;have gI:=eg 2 tk.at_ tk.s [] [] rfl;refine ai Tryz.func248 Tryz.ntmps248 ?_;refine U [0] (ht) ?_;refine U [0] (dC) ?_;refine U [0] (h1) ?_;refine U [0] (h2) ?_;refine U [0] (h3) ?_;refine U [0] (h4) ?_;refine U [0] (hn) ?_;refine U [] (gI) ?_;exact ao
 case pos =>
 rw [if_pos lk] at h
 have VL:((bf p).code != 0)=false:=by simpa using lk
 generalize bf p=p1 at *;generalize tok p 0=tk at *;have h5:=jk p1 0 [91] x cR (by decide);have YT:=cR.2;have YS:=cR.1
 cases hs5:is p1 0 [91] with
 | true =>
  rw [hs5] at h5;rw [if_pos hs5] at h;have aq:p1.i < p1.l.length:=is_lt (k:=0) hs5;have DB:=(dp aq).ok cR
  cases hb:iE f (.expr (d+1)) p1.next with
  | none=>rw [hb] at h;cases h
  | some r =>
   obtain ⟨b,p2⟩:=r;rw [hb] at h;cases h;have dD:=((ik f).1 _ _ _ _ DB hb).ok DB
   have wG:=C.expr (d+1) p1.next b p2 x DB ah hb
   have hw:=eA p2 [93] x dD;have gI:=eg 3 tk.at_ tk.s [b] [[qT b]] (fL _);refine ai Tryz.func248 Tryz.ntmps248 ?_;refine U [0] (ht) ?_;refine U [0] (dC) ?_;refine U [0] (h1) ?_;refine U [0] (h2) ?_;refine U [0] (h3) ?_;refine U [0] (h4) ?_;refine U [0] (hn) ?_;refine U [0] (h5) ?_;refine U [0] (wG) ?_;refine bJ ?_;refine ab ?_;refine U [0] (hw) ?_;refine bJ ?_;refine ab ?_;refine U [] (gI) ?_;exact ao
 | false =>
 rw [hs5] at h5;rw [if_neg (by rw [hs5];decide)] at h;have h6:=jk p1 0 [40] x cR (by decide)
 cases hs6:is p1 0 [40] with
 | true =>
  rw [hs6] at h6;rw [if_pos hs6] at h;have aq:p1.i < p1.l.length:=is_lt (k:=0) hs6;have DB:=(dp aq).ok cR
  cases hb:iA f (d+1) [] p1.next with
  | none=>rw [hb] at h;cases h
  | some r =>
   obtain ⟨b,p2⟩:=r;rw [hb] at h;cases h
   have wG:=C.exprs (d+1) p1.next b _ x DB ah hb
   have gI:=eg 4 tk.at_ tk.s b (jB b) rfl;refine ai Tryz.func248 Tryz.ntmps248 ?_;refine U [0] (ht) ?_;refine U [0] (dC) ?_;refine U [0] (h1) ?_;refine U [0] (h2) ?_;refine U [0] (h3) ?_;refine U [0] (h4) ?_;refine U [0] (hn) ?_;refine U [0] (h5) ?_;refine U [0] (h6) ?_;refine GW.draw (.q 0 (.q 1 (.q 2 (.q 3 (.q 4 (.q 5 (.a 6 (.a 7 (.q 8 .nil))))))))) (by kernel_rfl) (by kernel_rfl) ?_;refine aj ?_;refine aC [0] (wG) ?_;refine aC [] (gI) ?_;exact av
 | false =>
  rw [hs6] at h6;rw [if_neg (by rw [hs6];decide)] at h;cases h;have gI:=eg 2 tk.at_ tk.s [] [] rfl;refine ai Tryz.func248 Tryz.ntmps248 ?_;refine U [0] (ht) ?_;refine U [0] (dC) ?_;refine U [0] (h1) ?_;refine U [0] (h2) ?_;refine U [0] (h3) ?_;refine U [0] (h4) ?_;refine U [0] (hn) ?_;refine U [0] (h5) ?_;refine U [0] (h6) ?_;refine U [] (gI) ?_;exact ao
theorem Va (f:Nat):FJ f:=by
 induction f using Nat.strongRecOn with
 | _ f ih =>
  cases f with
  | zero=>exact ⟨fun d p t q x _ _ h=>by simp [iE] at h,fun k d p t q x _ _ _ h=>by simp [iE] at h,fun d p t q x _ _ h=>by simp [iE] at h,fun d p l q x _ _ h=>by simp [iA] at h⟩
  | succ f =>
   have C:=ih f (Nat.lt_succ_self f)
   have Cs:∀ f',f'<=f->FJ f':=fun f' h=>ih f' (Nat.lt_succ_of_le h)
   exact ⟨fun d p t q x hp hd h=>QY C d p t q x hp hd h,fun k d p t q x hp hk hd h=>P0 Cs k d p t q x hp hk hd h,fun d p t q x hp hd h=>Ln C d p t q x hp hd h,fun d p l q x hp hd h=>PB Cs d p l q x hp hd h⟩
end Go.Xg
namespace Go.Im
open Go.Xp Go.Sp
def SP (f d:Nat) (p:RS):Option (T × RS) :=
 if (tok p 0).kind=2/\is p 1 [61]=true then match iE f (.expr (d+1)) (want (bf p) [61]) with
  | none=>none
  | some (e,q)=>some (one 7 (tok p 0).at_ (tok p 0).s [e],want q [59])
 else match iE f (.expr (d+1)) p with
  | none=>none
  | some (e,q) =>
   if vE p q e then match e.kids,iE f (.expr (d+1)) (want q [61]) with
    | a::_,some (v,q)=>some (one 8 (tok p 0).at_ e.n.s [a,v],want q [59])
    | _,_=>none
   else some (one 12 (tok p 0).at_ [] [e],want q [59])
end Go.Im
namespace Go.Xg
open Go.RowKit Go.Xw Go.Proofs
open Go.Xp (Tok Nd T bc one levels fR dI dW dm c7 nE)
open Go.Sp Go.Im
attribute [local irreducible] GW GL GO YG GC GA aS aW
theorem NK {f:Nat} (d:Nat) (p:RS) (t:T) (q:RS) (x:PX) (hp:p.ok) (hd:d+1+f<=1099511627776) (h:SP f d p=some (t,q)) :
  GF Tryz.prog 230 [.loc 0 0,.v (ii (d:Nat))] [bF p x] (qT t) [bF q x]:=by
 unfold SP at h;have C:=Va f;have ht:=qo p 0 x hp (by decide);have hi:=jk p 1 [61] x hp (by decide)
 have main:∀ kk,((tok p 0).kind==2)=kk->(kk=true->is p 1 [61]=false)->GF Tryz.prog 230 [.loc 0 0,.v (ii (d:Nat))] [bF p x] (qT t) [bF q x]:=by
  intro kk hk qy
  rw [if_neg (fun hh=>by
   have h1:kk=true:=by rw [<-hk];simpa using hh.1
   have h2:=qy h1
   rw [hh.2] at h2;cases h2)] at h
  cases he:iE f (.expr (d+1)) p with
  | none=>rw [he] at h;cases h
  | some r =>
   obtain ⟨e,q1⟩:=r;rw [he] at h;simp only at h;have pz:=((ik f).1 _ _ _ _ hp he).ok hp;have YY:=pz.1;have YZ:=pz.2;have hex:=C.expr (d+1) p e q1 x hp ah he;have OD:=jk q1 0 [61] x pz (by decide)
   have Dk:e.n.kind=3->q1.code=0->∃ yl,q1.l[q1.i - 1]?=some yl/\tj q1=yl.s/\1<=q1.i:=by
    intro _ hc;have h1:=Se f _ _ _ _ hp he hc (fun k d out h=>by cases h);have h2:=pz.1
    have aq:q1.i - 1 < q1.l.length:=by omega
    exact ⟨q1.l[q1.i - 1],by simp [aq],by unfold tj;simp [aq],by omega⟩
   by_cases hput:vE p q1 e
   ·rw [if_pos hput] at h;have jV:=hput;obtain ⟨s1,s2,s3,s4,s5,s6⟩:=jV;obtain ⟨yl,a1,a2,a3⟩:=Dk s1 s2
    have jy:kk=true:=by rw [<-hk];simpa using s5
    subst jy;have x7:=qy rfl;rw [x7] at hi;rw [s6] at OD
    match ou:e.kids,hv:iE f (.expr (d+1)) (want q1 [61]),h with
    | a::rk,some (v,q2),h =>
     cases h;have ln:=(bU pz [61]).ok pz;have Gr:=((ik f).1 _ _ _ _ ln hv).ok ln;have hw:=eA q1 [61] x pz;have VQ:=C.expr (d+1) _ v q2 x ln ah hv;have nO:=eA q2 [59] x Gr;have hr:=jI a1;have dd:(jB e.kids)[0]?=some [qT a]:=Ab (by rw [ou];rfl);have Ky:(jB (a::rk))[0]?=some [qT a]:=Ab rfl
     have b1:(e.n.kind==3)=true:=by simpa using s1
     have b2:(q1.code==0)=true:=by simpa using s2
     have b3:(yl.s==[93])=true:=by rw [<-a2];simpa using s3
     have b4:(e.n.at_==(tok p 0).at_)=true:=by simpa using s4
     have gI:=eg 8 (tok p 0).at_ e.n.s [a,v] [[qT a],[qT v]] (fL _);generalize tok p 0=tk at *;refine ai Tryz.func230 Tryz.ntmps230 ?_;refine U [0] (ht) ?_;refine U [0] (hi) ?_;refine U [0] (hex) ?_;refine GW.draw (.q 0 (.q 1 (.q 2 (.q 3 (.q 4 (.q 5 (.q 6 (.q 7 (.q 8 (.q 9 (.q 10 (.q 11 (.q 12 (.q 13 (.q 14 (.q 15 (.q 16 (.q 17 (.q 18 (.q 19 (.q 20 (.q 21 (.q 22 (.q 23 (.q 24 (.q 25 (.q 26 (.q 27 (.q 28 (.q 29 (.q 30 (.q 31 (.q 32 (.q 33 (.q 34 (.q 35 (.q 36 (.q 37 (.q 38 (.q 39 (.q 40 (.q 41 (.q 42 (.q 43 (.q 44 (.a 45 (.q 46 .nil))))))))))))))))))))))))))))))))))))))))))))))) (by kernel_rfl) (by kernel_rfl) ?_;refine aj ?_;refine bz [0] (OD) ?_;refine ab ?_;refine bJ ?_;refine ab ?_;refine U [0] (hw) ?_;refine U [0] (VQ) ?_;refine bJ ?_;refine ab ?_;refine U [0] (nO) ?_;refine GW.draw (.q 0 (.q 1 (.q 2 (.q 3 (.q 4 (.q 5 (.q 6 (.q 7 (.q 8 (.q 9 (.q 10 (.q 11 (.q 12 (.q 13 (.a 14 (.a 15 (.q 16 .nil))))))))))))))))) (by kernel_rfl) (by kernel_rfl) ?_;refine aj ?_;refine dv ?_;refine aj ?_;refine aC [] (gI) ?_;exact av
    | [],_,h=>simp at h
    | _::_,none,h=>simp at h
   ·rw [if_neg hput] at h;cases h;have hw:=eA q1 [59] x pz;have gI:=eg 12 (tok p 0).at_ [] [e] [[qT e]] (fL _)
    cases kk with
    | true =>
     have x7:=qy rfl;rw [x7] at hi;refine ai Tryz.func230 Tryz.ntmps230 ?_;refine U [0] (ht) ?_;refine U [0] (hi) ?_;refine U [0] (hex) ?_;refine GW.join (fun fr Γ=>fr=[.loc 0 0,.v (ii (d:Nat)),.Zy,.Zy,.Zy,.loc 1 0,.Zy,.Zy,qT e,.Zy,.Zy,.Zy,.Zy,.Zy,.Zy,.Zy,.Zy,.Zy,.Zy,.Zy,.Zy,.Zy,.Zy,.Zy,.Zy,.Zy,.Zy,.Zy,.Zy,.Zy,.Zy,.Zy,.Zy,.Zy,.Zy,.Zy,.Zy,.Zy,.Zy,.Zy,.Zy,.Zy,.Zy,.Zy,.Zy,.Zy,.Zy,.Zy,.Zy,.Zy,.Zy,.Zy,.Zy,.Zy,.Zy,.Zy,.Zy,.Zy,.Zy,.Zy,.Zy,.Zy,.Zy,.Zy,.Zy,.Zy,.Zy,.Zy,.Zy,.Zy,.Zy,.Zy,.Zy,.Zy,.Zy,.Zy,.Zy,.Zy,.Zy,.Zy,.Zy,.Zy,.Zy,.Zy,.Zy,.Zy,.Zy,.v (.bool false),.Zy,.Zy,.Zy,.Zy,.Zy,.Zy,.Zy,.Zy,.Zy,.Zy,.Zy,.Zy,.Zy,.Zy,.Zy,.Zy,.Zy,.Zy,.Zy,.Zy,.Zy,.Zy,.Zy,.Zy,.Zy,.Zy,.Zy,.Zy,.Zy,.Zy,.Zy,.Zy,.Zy,.Zy]/\Γ=[bF q1 x,.box 162 (cW (tok p 0))]) ?_ ?_
     ·by_cases s1:e.n.kind=3
      ·have b1:(e.n.kind==3)=true:=by simpa using s1
       by_cases s2:q1.code=0
       ·have b2:(q1.code==0)=true:=by simpa using s2
        obtain ⟨yl,a1,a2,a3⟩:=Dk s1 s2;have hr:=jI a1
        by_cases s3:tj q1=[93]
        ·have b3:(yl.s==[93])=true:=by rw [<-a2];simpa using s3
         by_cases s4:e.n.at_=(tok p 0).at_
         ·have b4:(e.n.at_==(tok p 0).at_)=true:=by simpa using s4
          have s6:is q1 0 [61]=false:=by
           cases h6:is q1 0 [61] with
           | false=>rfl
           | true=>exact absurd ⟨s1,s2,s3,s4,by simpa using hk,h6⟩ hput
          rw [s6] at OD;generalize tok p 0=tk at *;refine GW.draw (.q 0 (.q 1 (.q 2 (.q 3 (.q 4 (.q 5 (.q 6 (.q 7 (.q 8 (.q 9 (.q 10 (.q 11 (.q 12 (.q 13 (.q 14 (.q 15 (.q 16 (.q 17 (.q 18 (.q 19 (.q 20 (.q 21 (.q 22 (.q 23 (.q 24 (.q 25 (.q 26 (.q 27 (.q 28 (.q 29 (.q 30 (.q 31 (.q 32 (.q 33 (.q 34 (.q 35 (.q 36 (.q 37 (.q 38 (.q 39 (.q 40 (.q 41 (.q 42 (.q 43 (.q 44 (.a 45 (.q 46 .nil))))))))))))))))))))))))))))))))))))))))))))))) (by kernel_rfl) (by kernel_rfl) ?_;refine aj ?_;refine bz [0] (OD) ?_;refine ab ?_;exact ⟨_,_,Wk.ax al,rfl,rfl⟩
         ·have b4:(e.n.at_==(tok p 0).at_)=false:=by simpa using s4
          generalize tok p 0=tk at *;refine GW.draw (.q 0 (.q 1 (.q 2 (.q 3 (.q 4 (.q 5 (.q 6 (.q 7 (.q 8 (.q 9 (.q 10 (.q 11 (.q 12 (.q 13 (.q 14 (.q 15 (.q 16 (.q 17 (.q 18 (.q 19 (.q 20 (.q 21 (.q 22 (.q 23 (.q 24 (.q 25 (.q 26 (.q 27 (.q 28 (.q 29 (.q 30 (.q 31 (.q 32 (.q 33 (.q 34 (.q 35 (.q 36 (.q 37 (.q 38 (.q 39 (.q 40 (.q 41 (.q 42 (.q 43 (.q 44 (.a 45 (.q 46 .nil))))))))))))))))))))))))))))))))))))))))))))))) (by kernel_rfl) (by kernel_rfl) ?_;refine aj ?_;refine ab ?_;exact ⟨_,_,Wk.ax al,rfl,rfl⟩
        ·have b3:(yl.s==[93])=false:=by rw [<-a2];simpa using s3
         generalize tok p 0=tk at *;refine GW.draw (.q 0 (.q 1 (.q 2 (.q 3 (.q 4 (.q 5 (.q 6 (.q 7 (.q 8 (.q 9 (.q 10 (.q 11 (.q 12 (.q 13 (.q 14 (.q 15 (.q 16 (.q 17 (.q 18 (.q 19 (.q 20 (.q 21 (.q 22 (.q 23 (.q 24 (.q 25 (.q 26 (.q 27 (.q 28 (.q 29 (.q 30 (.q 31 (.q 32 (.q 33 (.q 34 (.q 35 (.q 36 (.q 37 (.q 38 (.q 39 (.q 40 (.q 41 (.q 42 (.q 43 (.q 44 (.a 45 (.q 46 .nil))))))))))))))))))))))))))))))))))))))))))))))) (by kernel_rfl) (by kernel_rfl) ?_;refine aj ?_;refine ab ?_;exact ⟨_,_,Wk.ax al,rfl,rfl⟩
       ·have b2:(q1.code==0)=false:=by simpa using s2
        generalize tok p 0=tk at *;refine GW.draw (.q 0 (.q 1 (.q 2 (.q 3 (.q 4 (.q 5 (.q 6 (.q 7 (.q 8 (.q 9 (.q 10 (.q 11 (.q 12 (.q 13 (.q 14 (.q 15 (.q 16 (.q 17 (.q 18 (.q 19 (.q 20 (.q 21 (.q 22 (.q 23 (.q 24 (.q 25 (.q 26 (.q 27 (.q 28 (.q 29 (.q 30 (.q 31 (.q 32 (.q 33 (.q 34 (.q 35 (.q 36 (.q 37 (.q 38 (.q 39 (.q 40 (.q 41 (.q 42 (.q 43 (.q 44 (.a 45 (.q 46 .nil))))))))))))))))))))))))))))))))))))))))))))))) (by kernel_rfl) (by kernel_rfl) ?_;refine aj ?_;refine ab ?_;exact ⟨_,_,Wk.ax al,rfl,rfl⟩
      ·have b1:(e.n.kind==3)=false:=by simpa using s1
       generalize tok p 0=tk at *;refine GW.draw (.q 0 (.q 1 (.q 2 (.q 3 (.q 4 (.q 5 (.q 6 (.q 7 (.q 8 (.q 9 (.q 10 (.q 11 (.q 12 (.q 13 (.q 14 (.q 15 (.q 16 (.q 17 (.q 18 (.q 19 (.q 20 (.q 21 (.q 22 (.q 23 (.q 24 (.q 25 (.q 26 (.q 27 (.q 28 (.q 29 (.q 30 (.q 31 (.q 32 (.q 33 (.q 34 (.q 35 (.q 36 (.q 37 (.q 38 (.q 39 (.q 40 (.q 41 (.q 42 (.q 43 (.q 44 (.a 45 (.q 46 .nil))))))))))))))))))))))))))))))))))))))))))))))) (by kernel_rfl) (by kernel_rfl) ?_;refine aj ?_;refine ab ?_;exact ⟨_,_,Wk.ax al,rfl,rfl⟩
     ·rintro _ _ ⟨rfl,rfl⟩;generalize tok p 0=tk at *;refine ab ?_;refine bJ ?_;refine ab ?_;refine U [0] (hw) ?_;refine bJ ?_;refine ab ?_;refine U [] (gI) ?_;exact ao
    | false =>
     refine ai Tryz.func230 Tryz.ntmps230 ?_;refine U [0] (ht) ?_;refine U [0] (hex) ?_;refine GW.join (fun fr Γ=>fr=[.loc 0 0,.v (ii (d:Nat)),.Zy,.Zy,.Zy,.loc 1 0,.Zy,.Zy,qT e,.Zy,.Zy,.Zy,.Zy,.Zy,.Zy,.Zy,.Zy,.Zy,.Zy,.Zy,.Zy,.Zy,.Zy,.Zy,.Zy,.Zy,.Zy,.Zy,.Zy,.Zy,.Zy,.Zy,.Zy,.Zy,.Zy,.Zy,.Zy,.Zy,.Zy,.Zy,.Zy,.Zy,.Zy,.Zy,.Zy,.Zy,.Zy,.Zy,.Zy,.Zy,.Zy,.Zy,.Zy,.Zy,.Zy,.Zy,.Zy,.Zy,.Zy,.Zy,.Zy,.Zy,.Zy,.Zy,.Zy,.Zy,.Zy,.Zy,.Zy,.Zy,.Zy,.Zy,.Zy,.Zy,.Zy,.Zy,.Zy,.Zy,.Zy,.Zy,.Zy,.Zy,.Zy,.Zy,.Zy,.Zy,.Zy,.v (.bool false),.Zy,.Zy,.Zy,.Zy,.Zy,.Zy,.Zy,.Zy,.Zy,.Zy,.Zy,.Zy,.Zy,.Zy,.Zy,.Zy,.Zy,.Zy,.Zy,.Zy,.Zy,.Zy,.Zy,.Zy,.Zy,.Zy,.Zy,.Zy,.Zy,.Zy,.Zy,.Zy,.Zy,.Zy]/\Γ=[bF q1 x,.box 162 (cW (tok p 0))]) ?_ ?_
     ·by_cases s1:e.n.kind=3
      ·have b1:(e.n.kind==3)=true:=by simpa using s1
       by_cases s2:q1.code=0
       ·have b2:(q1.code==0)=true:=by simpa using s2
        obtain ⟨yl,a1,a2,a3⟩:=Dk s1 s2;have hr:=jI a1
        by_cases s3:tj q1=[93]
        ·have b3:(yl.s==[93])=true:=by rw [<-a2];simpa using s3
         by_cases s4:e.n.at_=(tok p 0).at_
         ·have b4:(e.n.at_==(tok p 0).at_)=true:=by simpa using s4
          generalize tok p 0=tk at *;refine GW.draw (.q 0 (.q 1 (.q 2 (.q 3 (.q 4 (.q 5 (.q 6 (.q 7 (.q 8 (.q 9 (.q 10 (.q 11 (.q 12 (.q 13 (.q 14 (.q 15 (.q 16 (.q 17 (.q 18 (.q 19 (.q 20 (.q 21 (.q 22 (.q 23 (.q 24 (.q 25 (.q 26 (.q 27 (.q 28 (.q 29 (.q 30 (.q 31 (.q 32 (.q 33 (.q 34 (.q 35 (.q 36 (.q 37 (.q 38 (.q 39 (.q 40 (.q 41 (.q 42 (.q 43 (.q 44 (.a 45 (.q 46 .nil))))))))))))))))))))))))))))))))))))))))))))))) (by kernel_rfl) (by kernel_rfl) ?_;refine aj ?_;refine ab ?_;exact ⟨_,_,Wk.ax al,rfl,rfl⟩
         ·have b4:(e.n.at_==(tok p 0).at_)=false:=by simpa using s4
          generalize tok p 0=tk at *;refine GW.draw (.q 0 (.q 1 (.q 2 (.q 3 (.q 4 (.q 5 (.q 6 (.q 7 (.q 8 (.q 9 (.q 10 (.q 11 (.q 12 (.q 13 (.q 14 (.q 15 (.q 16 (.q 17 (.q 18 (.q 19 (.q 20 (.q 21 (.q 22 (.q 23 (.q 24 (.q 25 (.q 26 (.q 27 (.q 28 (.q 29 (.q 30 (.q 31 (.q 32 (.q 33 (.q 34 (.q 35 (.q 36 (.q 37 (.q 38 (.q 39 (.q 40 (.q 41 (.q 42 (.q 43 (.q 44 (.a 45 (.q 46 .nil))))))))))))))))))))))))))))))))))))))))))))))) (by kernel_rfl) (by kernel_rfl) ?_;refine aj ?_;refine ab ?_;exact ⟨_,_,Wk.ax al,rfl,rfl⟩
        ·have b3:(yl.s==[93])=false:=by rw [<-a2];simpa using s3
         generalize tok p 0=tk at *;refine GW.draw (.q 0 (.q 1 (.q 2 (.q 3 (.q 4 (.q 5 (.q 6 (.q 7 (.q 8 (.q 9 (.q 10 (.q 11 (.q 12 (.q 13 (.q 14 (.q 15 (.q 16 (.q 17 (.q 18 (.q 19 (.q 20 (.q 21 (.q 22 (.q 23 (.q 24 (.q 25 (.q 26 (.q 27 (.q 28 (.q 29 (.q 30 (.q 31 (.q 32 (.q 33 (.q 34 (.q 35 (.q 36 (.q 37 (.q 38 (.q 39 (.q 40 (.q 41 (.q 42 (.q 43 (.q 44 (.a 45 (.q 46 .nil))))))))))))))))))))))))))))))))))))))))))))))) (by kernel_rfl) (by kernel_rfl) ?_;refine aj ?_;refine ab ?_;exact ⟨_,_,Wk.ax al,rfl,rfl⟩
       ·have b2:(q1.code==0)=false:=by simpa using s2
        generalize tok p 0=tk at *;refine GW.draw (.q 0 (.q 1 (.q 2 (.q 3 (.q 4 (.q 5 (.q 6 (.q 7 (.q 8 (.q 9 (.q 10 (.q 11 (.q 12 (.q 13 (.q 14 (.q 15 (.q 16 (.q 17 (.q 18 (.q 19 (.q 20 (.q 21 (.q 22 (.q 23 (.q 24 (.q 25 (.q 26 (.q 27 (.q 28 (.q 29 (.q 30 (.q 31 (.q 32 (.q 33 (.q 34 (.q 35 (.q 36 (.q 37 (.q 38 (.q 39 (.q 40 (.q 41 (.q 42 (.q 43 (.q 44 (.a 45 (.q 46 .nil))))))))))))))))))))))))))))))))))))))))))))))) (by kernel_rfl) (by kernel_rfl) ?_;refine aj ?_;refine ab ?_;exact ⟨_,_,Wk.ax al,rfl,rfl⟩
      ·have b1:(e.n.kind==3)=false:=by simpa using s1
       generalize tok p 0=tk at *;refine GW.draw (.q 0 (.q 1 (.q 2 (.q 3 (.q 4 (.q 5 (.q 6 (.q 7 (.q 8 (.q 9 (.q 10 (.q 11 (.q 12 (.q 13 (.q 14 (.q 15 (.q 16 (.q 17 (.q 18 (.q 19 (.q 20 (.q 21 (.q 22 (.q 23 (.q 24 (.q 25 (.q 26 (.q 27 (.q 28 (.q 29 (.q 30 (.q 31 (.q 32 (.q 33 (.q 34 (.q 35 (.q 36 (.q 37 (.q 38 (.q 39 (.q 40 (.q 41 (.q 42 (.q 43 (.q 44 (.a 45 (.q 46 .nil))))))))))))))))))))))))))))))))))))))))))))))) (by kernel_rfl) (by kernel_rfl) ?_;refine aj ?_;refine ab ?_;exact ⟨_,_,Wk.ax al,rfl,rfl⟩
     ·rintro _ _ ⟨rfl,rfl⟩;generalize tok p 0=tk at *;refine ab ?_;refine bJ ?_;refine ab ?_;refine U [0] (hw) ?_;refine bJ ?_;refine ab ?_;refine U [] (gI) ?_;exact ao
 by_cases hk:(tok p 0).kind=2
 ·cases x7:is p 1 [61] with
  | true =>
   clear main;rw [if_pos ⟨hk,x7⟩] at h;rw [x7] at hi
   have kP:((tok p 0).kind==2)=true:=by simpa using hk
   have hn:=pU p x hp;have cR:=(gm hp).ok hp;have hw:=eA (bf p) [61] x cR;have ln:=(bU cR [61]).ok cR
   cases he:iE f (.expr (d+1)) (want (bf p) [61]) with
   | none=>rw [he] at h;cases h
   | some r =>
    obtain ⟨e,q1⟩:=r;rw [he] at h;cases h;have pz:=((ik f).1 _ _ _ _ ln he).ok ln;have hex:=C.expr (d+1) _ e q1 x ln ah he;have nO:=eA q1 [59] x pz;have gI:=eg 7 (tok p 0).at_ (tok p 0).s [e] [[qT e]] (fL _);generalize tok p 0=tk at *;refine ai Tryz.func230 Tryz.ntmps230 ?_;refine U [0] (ht) ?_;refine U [0] (hi) ?_;refine U [0] (hn) ?_;refine bJ ?_;refine ab ?_;refine U [0] (hw) ?_;refine U [0] (hex) ?_;refine bJ ?_;refine ab ?_;refine U [0] (nO) ?_;refine bJ ?_;refine ab ?_;refine U [] (gI) ?_;exact ao
  | false=>exact main true (by simpa using hk) (fun _=>x7)
 ·exact main false (by simpa using hk) (fun h=>by cases h)
end Go.Xg
namespace Go.Xg
open Go.RowKit Go.Xw Go.Proofs
open Go.Xp (Tok Nd T bc one levels fR dI dW dm c7 nE pG)
open Go.Sp Go.Im
attribute [local irreducible] GW GL GO YG GC GA aS aW
theorem Li (k a:Int) (s:ae):GF Tryz.prog 211 [.v (ii k),.v (ii a),.v (sv s),.v (.slice none 0 0)] [] (.loc 0 0) [.box 149 [.v (ii k),.v (ii a),.v (ii 0),.v (sv s),.v (.slice none 0 0),.v (.slice none 0 0)]]:=by
 refine ai Tryz.func211 Tryz.ntmps211 ?_;refine GW.wk (Wk.cells 0 rfl (ds:=[.v (ii k),.v (ii a),.v (ii 0),.v (sv s),.v (.slice none 0 0),.v (.slice none 0 0)]) iy) ?_;refine GW.ret ?_;refine pM (n:=1) rfl (by first | exact .inr rfl | exact .inl rfl) rfl (Nat.zero_le _) rfl rfl ?_;exact ⟨rfl,rfl⟩
structure Od (f:Nat):Prop where
 block:∀ d p t q x,p.ok->d+3+f<=1099511627776->iS f (.block d) p=some (t,q)->GF Tryz.prog 183 [.loc 0 0,.v (ii (d:Nat))] [bF p x] (qT t) [bF q x]
 stmt:∀ d p t q x,p.ok->d+3+f<=1099511627776->iS f (.stmt d) p=some (t,q)->GF Tryz.prog 213 [.loc 0 0,.v (ii (d:Nat))] [bF p x] (qT t) [bF q x]
theorem Po {f:Nat} (C:∀ f',f'<=f->Od f') (d:Nat) (p:RS) (t:T) (q:RS) (x:PX) (hp:p.ok) (hd:d+3+(f+1)<=1099511627776) (h:iS (f+1) (.block d) p=some (t,q)) :
  GF Tryz.prog 183 [.loc 0 0,.v (ii (d:Nat))] [bF p x] (qT t) [bF q x]:=by
 rw [iS] at h;have dC:=vd p d x hp;have ht:=qo p 0 x hp (by decide);have BP:=Li 14 (tok p 0).at_ []
 by_cases hc:(bG p d).code=0
 case neg =>
  have dj:((bG p d).code==0)=false:=by simpa using hc
  rw [if_neg hc] at h;rw [dj] at dC;cases h;generalize tok p 0=tk at *;refine ai Tryz.func183 Tryz.ntmps183 ?_;refine U [0] (ht) ?_;refine U [] (BP) ?_;refine U [0] (dC) ?_;refine GW.wk (Wk.cells 1 rfl (ds:=[.v (ii 14),.v (ii tk.at_),.v (ii 0),.v (sv []),.v (.slice none 0 0),.sl 1 []]) iy) ?_;refine GW.wk (Wk.freeze (i:=1) rfl rfl rfl (Nat.le_of_ble_eq_true rfl)) ?_;exact ao
 case pos =>
 have dj:((bG p d).code==0)=true:=by simpa using hc
 rw [if_pos hc] at h;rw [dj,nJ hc] at dC;clear hc dj;have ln:=(bU hp [123]).ok hp;have hw:=eA p [123] x hp
 cases he:iB f (d+1) [] (want p [123]) with
 | none=>rw [he] at h;cases h
 | some r =>
  obtain ⟨l,q1⟩:=r;rw [he] at h;cases h;generalize tok p 0=tk at *;refine ai Tryz.func183 Tryz.ntmps183 ?_;refine U [0] (ht) ?_;refine U [] (BP) ?_;refine U [0] (dC) ?_;refine bJ ?_;refine ab ?_;refine U [0] (hw) ?_;refine GW.wk (Wk.D3 (i:=1) (o:=5) 123 1 rfl rfl) ?_;refine GW.loop (fun z:Nat × List T × RS=>z.1) (fun z fr Γ=>∃ n rows,fr=[.loc 0 0,.v (ii (d:Nat)),.Zy,.Zy,.Zy,.loc 1 0,.Zy,.Zy,.Zy,.Zy,.Zy,.Zy,.Zy,.Zy,.Zy,.Zy,.Zy,.Zy,.Zy,.Zy,.Zy,.Zy,.Zy,.Zy,.Zy,.Zy,.Zy,.Zy,.Zy,.Zy,.Zy,.Zy,.Zy,.Zy,.Zy,.Zy,.Zy,.Zy,.Zy,.Zy,.Zy,.Zy,.Zy,.Zy,.Zy]/\Γ=[bF z.2.2 x,.box 149 [.v (ii 14),.v (ii tk.at_),.v (ii 0),.v (sv []),.v (.slice none 0 0),.vec 2 n],.vec 123 1 0 rows]/\rows.length=n/\rows=jB z.2.1/\n+z.1<=f/\z.2.2.ok/\iB z.1 (d+1) z.2.1 z.2.2=some (l,q1)) (f,[],want p [123]) ?_ ?_
  ·exact ⟨_,_,Wk.ax al,0,[],rfl,rfl,rfl,rfl,by simp,ln,he⟩
  ·clear he ln hw dC ht;rintro ⟨g,acc,p⟩ _ _ ⟨n,rows,rfl,rfl,hn,bo,x9,hp,h⟩;simp only at bo x9 hp h
   cases g with
   | zero=>simp [iB] at h
   | succ g =>
   rw [iB] at h;have hi:=jk p 0 [125] x hp (by decide)
   by_cases hc:p.code=0
   ·have dj:(p.code==0)=true:=by simpa using hc
    cases hs:is p 0 [125] with
    | true =>
     rw [hs] at hi;rw [if_neg (fun hh=>by have:=hh.2;rw [hs] at this;cases this)] at h
     obtain ⟨rfl,rfl⟩:acc=l/\p=q1:=by simpa using h
     have hw:=eA p [125] x hp;subst bo;refine ab ?_;refine U [0] (hi) ?_;refine aU ?_;refine ab ?_;refine bJ ?_;refine ab ?_;refine U [0] (hw) ?_;refine GW.wk (Wk.vG (i:=1) (o:=5) rfl rfl rfl rfl hn) ?_;refine GW.wk (Wk.freeze (i:=1) rfl rfl rfl (Nat.le_of_ble_eq_true rfl)) ?_;exact ao
    | false =>
     rw [hs] at hi;rw [if_pos ⟨hc,hs⟩] at h
     cases hb:iS g (.stmt (d+1)) p with
     | none=>rw [hb] at h;cases h
     | some r =>
      obtain ⟨a,p2⟩:=r;rw [hb] at h;simp only at h;have dD:=((CJ g).1 _ _ _ _ hp hb).ok hp;have bE:=(C g ah).stmt (d+1) p a p2 x hp ah hb;refine ab ?_;refine U [0] (hi) ?_;refine GW.draw (.q 0 (.q 1 (.q 2 (.q 3 (.q 4 (.q 5 (.q 6 (.q 7 (.a 8 (.a 9 (.a 10 (.q 11 (.q 12 (.a 13 .nil)))))))))))))) (by kernel_rfl) (by kernel_rfl) ?_;refine aj ?_;refine aC [0] (bE) ?_;refine dv ?_;refine aj ?_;refine rz ?_;refine aj ?_;refine ab ?_;exact ⟨(g,acc++[a],p2),⟨_,_,Wk.ax al,_,_,rfl,rfl,by simp [hn],by rw [uK,bo];rfl,by show n+1+g<=f;omega,dD,h⟩,by simp⟩
   ·have dj:(p.code==0)=false:=by simpa using hc
    rw [if_neg (fun hh=>hc hh.1)] at h
    obtain ⟨rfl,rfl⟩:acc=l/\p=q1:=by simpa using h
    have hw:=eA p [125] x hp;subst bo;refine ab ?_;refine aU ?_;refine ab ?_;refine bJ ?_;refine ab ?_;refine U [0] (hw) ?_;refine GW.wk (Wk.vG (i:=1) (o:=5) rfl rfl rfl rfl hn) ?_;refine GW.wk (Wk.freeze (i:=1) rfl rfl rfl (Nat.le_of_ble_eq_true rfl)) ?_;exact ao
theorem SW {f:Nat} (C:Od f) (d:Nat) (p:RS) (t:T) (q:RS) (x:PX) (hp:p.ok) (hd:d+3+(f+1)<=1099511627776) (h:iS (f+1) (.stmt d) p=some (t,q)) :
  GF Tryz.prog 213 [.loc 0 0,.v (ii (d:Nat))] [bF p x] (qT t) [bF q x]:=by
 rw [iS] at h;have E:=Va f;have dC:=vd p d x hp;have ht:=qo p 0 x hp (by decide)
 by_cases hc:(bG p d).code=0
 case neg =>
  have dj:((bG p d).code==0)=false:=by simpa using hc
  rw [if_neg hc] at h;rw [dj] at dC;cases h;refine ai Tryz.func213 Tryz.ntmps213 ?_;refine U [0] (ht) ?_;refine U [0] (dC) ?_;refine U [] (ET) ?_;exact ao
 case pos =>
 have dj:((bG p d).code==0)=true:=by simpa using hc
 rw [if_pos hc] at h;rw [dj,nJ hc] at dC;clear hc dj;have cJ:=hp.2;have BR:=hp.1;have h1:=jk p 0 fR x hp (by decide);have h2:=jk p 0 dI x hp (by decide);have h3:=jk p 0 dm x hp (by decide);have h4:=jk p 0 c7 x hp (by decide)
 cases fH:is p 0 fR with
 | true =>
  rw [fH] at h1;rw [if_pos fH] at h;have aq:p.i < p.l.length:=is_lt (k:=0) fH;have cR:=(dp aq).ok hp
  have hn:=pU p.next x cR
  have wI:=(gm cR).ok cR;have hw:=eA _ [61] x wI;have ln:=(bU wI [61]).ok wI
  cases he:iE f (.expr (d+1)) (want (bf p.next) [61]) with
  | none=>rw [he] at h;cases h
  | some r =>
   obtain ⟨e,q1⟩:=r;rw [he] at h;cases h;have pz:=((ik f).1 _ _ _ _ ln he).ok ln;have hex:=E.expr (d+1) _ e q1 x ln ah he;have nO:=eA q1 [59] x pz;have gI:=eg 13 (tok p 0).at_ (tok p.next 0).s [e] [[qT e]] (fL _);generalize tok p 0=tk at *
   generalize tok p.next 0=tn at *
   refine ai Tryz.func213 Tryz.ntmps213 ?_;refine U [0] (ht) ?_;refine U [0] (dC) ?_;refine U [0] (h1) ?_;refine U [0] (hn) ?_;refine bJ ?_;refine ab ?_;refine U [0] (hw) ?_;refine U [0] (hex) ?_;refine bJ ?_;refine ab ?_;refine U [0] (nO) ?_;refine bJ ?_;refine ab ?_;refine U [] (gI) ?_;exact ao
 | false =>
 rw [fH] at h1;rw [if_neg (by rw [fH];decide)] at h
 have main:∀ bi bw:Bool,is p 0 dI=bi->is p 0 dm=bw->(bi=true\/bw=true)->GF Tryz.prog 213 [.loc 0 0,.v (ii (d:Nat))] [bF p x] (qT t) [bF q x]:=by
  intro bi bw uo UM uv
  have mf:is p 0 dI=true\/is p 0 dm=true:=by rw [uo,UM];exact uv
  have aq:p.i < p.l.length:=by rcases mf with hh | hh <;> exact is_lt (k:=0) hh
  rw [if_pos mf] at h;have cR:=(dp aq).ok hp
  have hw:=eA p.next [40] x cR
  have ln:=(bU cR [40]).ok cR
  cases he:iE f (.expr (d+1)) (want p.next [40]) with
  | none=>rw [he] at h;cases h
  | some r =>
  obtain ⟨c,q1⟩:=r;rw [he] at h;simp only at h;have pz:=((ik f).1 _ _ _ _ ln he).ok ln;have hex:=E.expr (d+1) _ c q1 x ln ah he;have nO:=eA q1 [41] x pz;have RT:=(bU pz [41]).ok pz
  cases hb:iS f (.block (d+1)) (want q1 [41]) with
  | none=>rw [hb] at h;cases h
  | some r =>
  obtain ⟨b,q2⟩:=r;rw [hb] at h;simp only at h;have Gr:=((CJ f).1 _ _ _ _ RT hb).ok RT;have Y1:=Gr.2;have Y0:=Gr.1;have dH:=C.block (d+1) _ b q2 x RT ah hb;have dP:=jk q2 0 dW x Gr (by decide);rw [uo] at h2;rw [UM] at h3
  cases bi with
  | true =>
   have H9:∀ (cc ee:Bool),(q2.code==0)=cc->is q2 0 dW=ee->(cc=false\/ee=false)->GF Tryz.prog 213 [.loc 0 0,.v (ii (d:Nat))] [bF p x] (qT t) [bF q x]:=by
    intro cc ee rU vQ RO
    rw [if_neg (fun hh=>by
     rcases RO with h0 | h0
     ·rw [h0] at rU;have:=hh.2.1;simp [this] at rU
     ·rw [h0] at vQ;rw [vQ] at hh;exact absurd hh.2.2 (by decide)),if_pos uo] at h
    cases h;rw [vQ] at dP;have gI:=eg 9 (tok p 0).at_ [] [c,b] [[qT c],[qT b]] (fL _);generalize tok p 0=tk at *
    cases cc with
    | true =>
     cases ee with
     | true=>simp at RO
     | false =>
      refine ai Tryz.func213 Tryz.ntmps213 ?_;refine U [0] (ht) ?_;refine U [0] (dC) ?_;refine U [0] (h1) ?_;refine U [0] (h2) ?_;refine U [0] (h2) ?_;refine bJ ?_;refine ab ?_;refine U [0] (hw) ?_;refine U [0] (hex) ?_;refine nT ?_;refine ab ?_;refine bJ ?_;refine ab ?_;refine U [0] (nO) ?_;refine U [0] (dH) ?_;refine dX ?_;refine ab ?_;refine U [0] (dP) ?_;refine GL.wk (Wk.gD (t:=108) rfl rfl rfl rfl) ?_;refine cL ?_;refine U [] (gI) ?_;exact ao
    | false =>
     refine ai Tryz.func213 Tryz.ntmps213 ?_;refine U [0] (ht) ?_;refine U [0] (dC) ?_;refine U [0] (h1) ?_;refine U [0] (h2) ?_;refine U [0] (h2) ?_;refine bJ ?_;refine ab ?_;refine U [0] (hw) ?_;refine U [0] (hex) ?_;refine nT ?_;refine ab ?_;refine bJ ?_;refine ab ?_;refine U [0] (nO) ?_;refine U [0] (dH) ?_;refine dX ?_;refine ab ?_;refine GL.wk (Wk.gD (t:=108) rfl rfl rfl rfl) ?_;refine cL ?_;refine U [] (gI) ?_;exact ao
   by_cases jh:q2.code=0
   ·cases vQ:is q2 0 dW with
    | true =>
     clear H9;rw [if_pos ⟨uo,jh,vQ⟩] at h;rw [vQ] at dP
     have rU:(q2.code==0)=true:=by simpa using jh
     have lZ:q2.i < q2.l.length:=is_lt (k:=0) vQ;have XP:=(dp lZ).ok Gr
     cases ey:iS f (.block (d+1)) q2.next with
     | none=>rw [ey] at h;cases h
     | some r =>
      obtain ⟨b2,q3⟩:=r;rw [ey] at h;cases h;have TA:=C.block (d+1) _ b2 _ x XP ah ey;have gI:=eg 9 (tok p 0).at_ [] [c,b,b2] [[qT c],[qT b],[qT b2]] (fL _);generalize tok p 0=tk at *;refine ai Tryz.func213 Tryz.ntmps213 ?_;refine U [0] (ht) ?_;refine U [0] (dC) ?_;refine U [0] (h1) ?_;refine U [0] (h2) ?_;refine U [0] (h2) ?_;refine bJ ?_;refine ab ?_;refine U [0] (hw) ?_;refine U [0] (hex) ?_;refine nT ?_;refine ab ?_;refine bJ ?_;refine ab ?_;refine U [0] (nO) ?_;refine U [0] (dH) ?_;refine dX ?_;refine ab ?_;refine U [0] (dP) ?_;refine U [0] (TA) ?_;refine dX ?_;refine ab ?_;refine GL.wk (Wk.gD (t:=108) rfl rfl rfl rfl) ?_;refine cL ?_;refine U [] (gI) ?_;exact ao
    | false=>exact H9 true false (by simpa using jh) vQ (.inr rfl)
   ·exact H9 false _ (by simpa using jh) rfl (.inl rfl)
  | false =>
   have VJ:bw=true:=by simpa using uv
   subst VJ;rw [if_neg (fun hh=>by have:=hh.1;rw [uo] at this;cases this),if_neg (by rw [uo];decide)] at h;cases h;have gI:=eg 10 (tok p 0).at_ [] [c,b] [[qT c],[qT b]] (fL _);generalize tok p 0=tk at *;refine ai Tryz.func213 Tryz.ntmps213 ?_;refine U [0] (ht) ?_;refine U [0] (dC) ?_;refine U [0] (h1) ?_;refine U [0] (h2) ?_;refine U [0] (h3) ?_;refine U [0] (h2) ?_;refine bJ ?_;refine ab ?_;refine U [0] (hw) ?_;refine U [0] (hex) ?_;refine nT ?_;refine ab ?_;refine bJ ?_;refine ab ?_;refine U [0] (nO) ?_;refine U [0] (dH) ?_;refine dX ?_;refine ab ?_;refine GL.wk (Wk.gD (t:=108) rfl rfl rfl rfl) ?_;refine cL ?_;refine U [] (gI) ?_;exact ao
 cases iQ:is p 0 dI with
 | true=>exact main true _ iQ rfl (.inl rfl)
 | false =>
 cases qX:is p 0 dm with
 | true=>exact main false true iQ qX (.inr rfl)
 | false =>
 clear main;rw [iQ] at h2;rw [qX] at h3;rw [if_neg (by rw [iQ,qX];decide)] at h
 cases vS:is p 0 c7 with
 | true =>
  rw [vS] at h4;rw [if_pos vS] at h;have aq:p.i < p.l.length:=is_lt (k:=0) vS;have cR:=(dp aq).ok hp
  cases he:iE f (.expr (d+1)) p.next with
  | none=>rw [he] at h;cases h
  | some r =>
   obtain ⟨e,q1⟩:=r;rw [he] at h;cases h;have pz:=((ik f).1 _ _ _ _ cR he).ok cR;have hex:=E.expr (d+1) _ e q1 x cR ah he;have nO:=eA q1 [59] x pz;have gI:=eg 11 (tok p 0).at_ [] [e] [[qT e]] (fL _);generalize tok p 0=tk at *;refine ai Tryz.func213 Tryz.ntmps213 ?_;refine U [0] (ht) ?_;refine U [0] (dC) ?_;refine U [0] (h1) ?_;refine U [0] (h2) ?_;refine U [0] (h3) ?_;refine U [0] (h4) ?_;refine U [0] (hex) ?_;refine bJ ?_;refine ab ?_;refine U [0] (nO) ?_;refine bJ ?_;refine ab ?_;refine U [] (gI) ?_;exact ao
 | false =>
  rw [vS] at h4;rw [if_neg (by rw [vS];decide)] at h;have RZ:=NK (f:=f) d p t q x hp ah h;generalize tok p 0=tk at *;refine ai Tryz.func213 Tryz.ntmps213 ?_;refine U [0] (ht) ?_;refine U [0] (dC) ?_;refine U [0] (h1) ?_;refine U [0] (h2) ?_;refine U [0] (h3) ?_;refine U [0] (h4) ?_;refine U [0] (RZ) ?_;exact ao
theorem Vd (f:Nat):Od f:=by
 induction f using Nat.strongRecOn with
 | _ f ih =>
  cases f with
  | zero=>exact ⟨fun d p t q x _ _ h=>by simp [iS] at h,fun d p t q x _ _ h=>by simp [iS] at h⟩
  | succ f =>
   have C:=ih f (Nat.lt_succ_self f)
   have Cs:∀ f',f'<=f->Od f':=fun f' h=>ih f' (Nat.lt_succ_of_le h)
   exact ⟨fun d p t q x hp hd h=>Po Cs d p t q x hp hd h,fun d p t q x hp hd h=>SW C d p t q x hp hd h⟩
end Go.Xg
namespace Go.Xg
open Go.RowKit Go.Xw Go.Proofs
open Go.Xp (Tok Nd T aD ay lj dV bN)
attribute [local irreducible] GW GL GO YG GC GA aS aW
def qS (n:Nd):List GV:=[.v (ii n.kind),.v (ii n.at_),.v (ii n.n),.v (sv n.s),ints n.kids]
def Bb (t:T) (x:Value):List GV:=[.v (ii t.n.kind),.v (ii t.n.at_),.v (ii t.n.n),.v (sv t.n.s),.v x]
theorem JX:∀ (N:Nat) (t:T),aD t<=N->∀ (n:Nat) (rows:List (List GV)) (a:Option Addr) (c:Nat),rows.length=n->n+aD t<=1099511627776 ->
  GC Tryz.prog 146 [.v (.slice a n c),qT t] [.vech 53 5 rows (.slice a n c)] fun g aH=>∃ a c,g=.v (.slice a (n+aD t) c)/\aH=[.vech 53 5 (rows++(lj n t).map qS) (.slice a (n+aD t) c)]:=by
 intro N
 induction N with
 | zero=>intro t h;rw [Go.Xp.eh] at h;omega
 | succ N ih =>
 intro t hN n rows a c hn hb;subst hn;rw [Go.Xp.eh] at hb hN;have eE:=Go.Xp.cK t.kids;refine ai Tryz.func146 Tryz.ntmps146 ?_;refine GL.ql 0 rfl rfl rfl rfl rfl rfl rfl rfl (by first | rfl | assumption) ⟨⟨by omega,by omega⟩,by decide⟩ ?_;intro a c;refine cL ?_;refine ab ?_;refine GW.wk (Wk.l8 3 1) ?_
 refine GW.range (jB t.kids).length (fun k fr Γ=>∃ a c a2 c2,fr=[.v (.slice a (rows.length+1+ay (t.kids.take k)) c),qT t,.Zy,.Zy,.Zy,.v (ii (rows.length:Nat)),.Zy,.Zy,.Zy,.Zy,.Zy,.Zy,.Zy,.Zy,.Zy,.Zy,.Zy,.Zy,.Zy,.Zy,.sl 1 (jB t.kids),.v (ii ((jB t.kids).length:Int)),.v (ii (k:Nat)),.Zy,.Zy,.Zy,.Zy,.Zy,.Zy,.Zy,.Zy,.Zy,.Zy,.Zy,.Zy,.Zy,.Zy,.Zy,.Zy,.Zy,.Zy,.Zy,.Zy,.Zy] /\
  Γ=[.vech 53 5 (rows++Bb t (.slice a2 k c2)::(dV (rows.length+1) (t.kids.take k)).map qS) (.slice a (rows.length+1+ay (t.kids.take k)) c),.vech 3 1 ((bN (rows.length+1) (t.kids.take k)).map fun z=>[.v (ii z)]) (.slice a2 k c2)]) ?_ (by rw [lT];omega) ?_ ?_ ?_
 ·refine ⟨_,_,Wk.ax al,a,c,none,0,rfl,?_⟩;rfl
 ·rintro k _ _ ⟨a,c,a2,c2,rfl,rfl⟩;exact ⟨rfl,rfl,rfl⟩
 ·rintro k _ _ aq ⟨a,c,a2,c2,rfl,rfl⟩;rw [lT] at aq;obtain ⟨wO,jD⟩:∃ wO,t.kids[k]?=some wO:=⟨t.kids[k],by simp [aq]⟩;have hr:=Ab jD;have b8:=Go.Xp.tQ jD;have hle:=Go.Xp.tP t.kids (k+1)
  have jz:t.kids.take (k+1)=t.kids.take k++[wO]:=by rw [take_add_one,jD];rfl
  have hX:((dV (rows.length+1) (t.kids.take k)).map qS).length=ay (t.kids.take k):=by rw [length_map,Go.Xp.xm]
  have ou:((bN (rows.length+1) (t.kids.take k)).map fun z=>[GV.v (ii z)]).length=k:=by rw [length_map,Go.Xp.c6,List.length_take];omega
  rw [jz,Go.Xp.Ih,Go.Xp.Ga,Go.Xp.lV];simp only [bN,dV,ay,List.append_nil,Nat.add_zero,map_append,List.map_cons,map_nil,<-Nat.add_assoc]
  have BO:=fun (rs:List (List GV)) a c h=>ih wO ah (rows.length+1+ay (t.kids.take k)) rs a c h ah
  generalize (dV (rows.length+1) (t.kids.take k)).map qS=X at *;generalize ((bN (rows.length+1) (t.kids.take k)).map fun z=>[GV.v (ii z)])=ks at *;generalize ay (t.kids.take k)=s at *;subst ou
  have jR:∀ r:List GV,(rows++r::X).length=rows.length+1+s:=fun r=>by simp;omega
  have bo:(rows++Bb t (.slice a2 ks.length c2)::X)[rows.length]?=some (Bb t (.slice a2 ks.length c2)):=by simp
  have eP:=jR (Bb t (.slice a2 ks.length c2));unfold Bb at bo eP |-;refine ab ?_;refine GL.ql 1 rfl rfl rfl rfl rfl rfl rfl rfl (by first | rfl | assumption) ⟨⟨by omega,by omega⟩,by decide⟩ ?_;intro a3 c3;refine cL ?_;refine ab ?_;refine nU ?_;rw [Eh];simp only [bj];refine ab ?_;refine bZ [0] (BO _ _ _ (jR _)) ?_;rintro _ _ ⟨a4,c4,rfl,rfl⟩;refine da ?_;refine ab ?_;refine ⟨rfl,rfl,_,_,Wk.ax al,a4,c4,a3,c3,rfl,?_⟩;rw [append_assoc];rfl
 ·rintro _ _ ⟨a,c,a2,c2,rfl,rfl⟩;rw [lT,take_length];rw [Go.Xp.eh,Go.Xp.JV]
  have ou:((bN (rows.length+1) t.kids).map fun z=>[GV.v (ii z)]).length=t.kids.length:=by rw [length_map,Go.Xp.c6]
  have qy:ints (bN (rows.length+1) t.kids)=.sl 1 ((bN (rows.length+1) t.kids).map fun z=>[GV.v (ii z)]):=rfl;rw [List.map_cons];simp only [qS,Bb];rw [qy,show rows.length+(ay t.kids+1)=rows.length+1+ay t.kids by omega];generalize (dV (rows.length+1) t.kids).map qS=X at *;generalize ((bN (rows.length+1) t.kids).map fun z=>[GV.v (ii z)])=ks at *;generalize ay t.kids=s at *
  have bo:∀ r:List GV,(rows++r::X)[rows.length]?=some r:=fun r=>by simp
  refine aL ?_;apply GW.wk
  ·apply Wk.IP (i:=0) (idx:=rows.length) (o:=4) (j:=1)
   ·rfl
   ·exact bo _
   ·rfl
   ·rfl
   ·rfl
  rw [Eh];simp only [bj];refine ab ?_;refine bK ?_;exact ⟨_,_,rfl,rfl⟩
end Go.Xg
namespace Go.Xg
open Go.RowKit Go.Xw Go.Proofs
open Go.Xp (Tok Nd T bc one levels fR dI dW dm c7 kF lP nE Ar)
open Go.Sp Go.Im
attribute [local irreducible] GW GL GO YG GC GA aS aW
structure HW where
 aT:Option Addr
 cT:Nat
 aG:Option Addr
 cG:Nat
 aA:Option Addr
 cA:Nat
 aF:Option Addr
 cF:Nat
def pZ (x:Ar):List GV:=[.v (sv x.name),.v (ii x.size)]
def o8 (x:ae × List ae):List GV:=[.v (sv x.1),strs x.2,.v (ii 0)]
def kv (x:ae):List GV:=[.v (sv x)]
abbrev hx (st:PS) (h:HW):PX:=⟨.slice h.aT st.trees.length h.cT,.slice h.aG st.globals.length h.cG,.slice h.aA st.arrays.length h.cA,.slice h.aF st.fns.length h.cF,.slice none 0 0⟩
abbrev tI (p:RS) (st:PS) (h:HW):List Ob:=[bF p (hx st h),.vech 123 1 (jB st.trees) (.slice h.aT st.trees.length h.cT),.vech 9 1 (st.globals.map kv) (.slice h.aG st.globals.length h.cG),.vech 86 2 (st.arrays.map pZ) (.slice h.aA st.arrays.length h.cA),.vech 85 3 (st.fns.map o8) (.slice h.aF st.fns.length h.cF)]
theorem vt {α β:Type} (g:α->β) (l:List α) (x:α):(l++[x]).map g=l.map g++[g x]:=by simp
theorem L5 {f:Nat} (p:RS) (st:PS) (h:HW) (q:RS) (dM:PS) (n:Nat) (hp:p.ok) (hn:st.le n) (hb:n+1<=1099511627776) (hs:is p 0 kF=true) (hw:iW f p st=some (q,dM)) :
  GC Tryz.prog 145 [.loc 0 0] (tI p st h) (fun g aH=>g=.tup []/\∃ h',aH=tI q dM h'):=by
 obtain ⟨BR,cJ⟩:=id hp;obtain ⟨Dw,bI,XF,XG⟩:=hn;unfold iW at hw;rw [if_pos hs] at hw;have hi:=jk p 0 kF (hx st h) hp (by decide);rw [hs] at hi;have jT:=(iM hs).ok hp
 have ef:=pU p.next (hx st h) jT
 have dD:=(gm jT).ok jT;generalize (tok p.next 0).s=s at *
 generalize bf p.next=p2 at *
 have qV:=jk p2 0 [91] (hx st h) dD (by decide)
 have YA:¬ (p2.code=0/\is p2 0 [91]=true)->True:=fun _=>trivial
 cases hc:(p2.code==0) with
 | false =>
  have dj:¬ p2.code=0:=by simpa using hc
  rw [if_neg (fun hh=>dj hh.1)] at hw;cases hw
  have wz:(st.globals.map kv).length+1=(st.globals++[s]).length:=by simp
  have ot:st.globals.map kv++[[GV.v (sv s)]]=(st.globals++[s]).map kv:=by simp [kv]
  have hlen:(st.globals.map kv).length+1<=1099511627776:=by simp;omega
  refine ai Tryz.func145 Tryz.ntmps145 ?_;refine U [0] (hi) ?_;refine U [0] (ef) ?_;refine GL.ql 2 rfl rfl rfl rfl rfl rfl rfl rfl (by first | rfl | assumption) ⟨⟨by omega,by omega⟩,by decide⟩ ?_;intro a c;refine cL ?_;rw [wz,ot];refine ab ?_;refine bJ ?_;refine ab ?_;refine U [0] (eA p2 [59] (hx { st with globals:=st.globals++[s] } { h with aG:=a,cG:=c }) dD) ?_;refine cE ?_;exact ⟨rfl,{ h with aG:=a,cG:=c },rfl⟩
 | true =>
  have dj:p2.code=0:=by simpa using hc
  cases ey:is p2 0 [91] with
  | false =>
   rw [ey] at qV;rw [if_neg (fun hh=>by have:=hh.2;rw [ey] at this;cases this)] at hw;cases hw
   have wz:(st.globals.map kv).length+1=(st.globals++[s]).length:=by simp
   have ot:st.globals.map kv++[[GV.v (sv s)]]=(st.globals++[s]).map kv:=by simp [kv]
   have hlen:(st.globals.map kv).length+1<=1099511627776:=by simp;omega
   refine ai Tryz.func145 Tryz.ntmps145 ?_;refine U [0] (hi) ?_;refine U [0] (ef) ?_;refine U [0] (qV) ?_;refine GL.ql 2 rfl rfl rfl rfl rfl rfl rfl rfl (by first | rfl | assumption) ⟨⟨by omega,by omega⟩,by decide⟩ ?_;intro a c;refine cL ?_;rw [wz,ot];refine ab ?_;refine bJ ?_;refine ab ?_;refine U [0] (eA p2 [59] (hx { st with globals:=st.globals++[s] } { h with aG:=a,cG:=c }) dD) ?_;refine cE ?_;exact ⟨rfl,{ h with aG:=a,cG:=c },rfl⟩
  | true =>
   rw [ey] at qV;rw [if_pos ⟨dj,ey⟩] at hw;have yb:=(iM ey).ok dD;have YU:=dD.1;have RQ:=dD.2;have YV:=yb.1;have YW:=yb.2
   have ht:=qo p2.next 0 (hx st h) yb (by decide)
   have DJ:=xI p2.next (hx st h) yb
   have Dk:(tok p2.next 0).kind=1->p2.next.next.ok:=fun hk=>(dp (qJ (p:=p2.next) (k:=0) (by rw [hk];decide))).ok yb
   generalize tok p2.next 0=tk at *
   by_cases hk:tk.kind=1
   ·rw [if_pos hk] at hw;cases hw
    have kP:(tk.kind != 1)=false:=by simpa using hk
    have OI:=Dk hk;have YX:=OI.1
    have DH:=eA p2.next.next [93] (hx st h) OI
    have XN:=(bU OI [93]).ok OI
    generalize want p2.next.next [93]=p5 at *
    have wz:(st.arrays.map pZ).length+1=(st.arrays++[(⟨s,tk.n⟩:Ar)]).length:=by simp
    have ot:st.arrays.map pZ++[[GV.v (sv s),.v (ii tk.n)]]=(st.arrays++[(⟨s,tk.n⟩:Ar)]).map pZ:=by simp [pZ]
    have hlen:(st.arrays.map pZ).length+1<=1099511627776:=by simp;omega
    refine ai Tryz.func145 Tryz.ntmps145 ?_;refine U [0] (hi) ?_;refine U [0] (ef) ?_;refine U [0] (qV) ?_;refine U [0] (ht) ?_;refine bJ ?_;refine ab ?_;refine U [0] (DH) ?_;refine GW.draw (.q 0 (.q 1 (.q 2 (.q 3 (.q 4 (.q 5 (.q 6 (.q 7 (.q 8 (.q 9 (.a 10 (.a 11 (.q 12 (.q 13 (.q 14 (.a 15 .nil)))))))))))))))) (by kernel_rfl) (by kernel_rfl) ?_;refine aj ?_;refine dv ?_;refine aj ?_;refine OA rfl rfl (GL.n5 3 rfl rfl rfl (by first | rfl | assumption) rfl rfl (by refine ⟨?_,?_⟩;(· show _+1<=_;omega);(· show (_+1) * _<=_;omega)) ?_);intro a c;refine de ?_;generalize hX:chunk 1 2 _=X
    obtain rfl:X=[pZ ⟨s,tk.n⟩]:=by rw [<-hX];rfl
    clear hX
    try (generalize hX:chunk 1 2 _=X;obtain rfl:X=[pZ ⟨s,tk.n⟩]:=by rw [<-hX];rfl)
    rw [show (st.arrays.map pZ).length+[pZ ⟨s,tk.n⟩].length=(st.arrays++[(⟨s,tk.n⟩:Ar)]).length by simp,<-vt pZ st.arrays ⟨s,tk.n⟩];refine aj ?_;refine ab ?_;refine bJ ?_;refine ab ?_;refine U [0] (eA p5 [59] (hx { st with arrays:=st.arrays++[⟨s,tk.n⟩] } { h with aA:=a,cA:=c }) XN) ?_;refine cE ?_;exact ⟨rfl,{ h with aA:=a,cA:=c },rfl⟩
   ·rw [if_neg hk] at hw;cases hw
    have kP:(tk.kind != 1)=true:=by simpa using hk
    refine ai Tryz.func145 Tryz.ntmps145 ?_;refine U [0] (hi) ?_;refine U [0] (ef) ?_;refine U [0] (qV) ?_;refine U [0] (ht) ?_;refine U [0] (DJ) ?_;refine cE ?_;exact ⟨rfl,h,rfl⟩
end Go.Xg
namespace Go.Xg
open Go.RowKit Go.Xw Go.Proofs
open Go.Xp (Tok Nd T bc one levels fR dI dW dm c7 kF lP nE Ar)
open Go.Sp Go.Im
attribute [local irreducible] GW GL GO YG GC GA aS aW
theorem I6 {f:Nat} (p:RS) (st:PS) (h:HW) (q:RS) (dM:PS) (hp:p.ok) (hs:is p 0 kF=false) (iQ:is p 0 lP=false) (hw:iW f p st=some (q,dM)) :
  GC Tryz.prog 145 [.loc 0 0] (tI p st h) (fun g aH=>g=.tup []/\∃ h',aH=tI q dM h'):=by
 unfold iW at hw;rw [if_neg (by rw [hs];decide),if_neg (by rw [iQ];decide)] at hw;cases hw;have hi:=jk p 0 kF (hx st h) hp (by decide);have qV:=jk p 0 lP (hx st h) hp (by decide);have DJ:=xI p (hx st h) hp;rw [hs] at hi;rw [iQ] at qV;refine ai Tryz.func145 Tryz.ntmps145 ?_;refine U [0] (hi) ?_;refine U [0] (qV) ?_;refine U [0] (DJ) ?_;refine cE ?_;exact ⟨rfl,h,rfl⟩
abbrev To (p:RS) (st:PS) (h:HW) (s:ae) (acc:List ae) (a:Option Addr) (c:Nat):List Ob:=tI p st h++[.box 85 [.v (sv s),.v (.slice a acc.length c),.v (ii 0)],.vech 9 1 (acc.map kv) (.slice a acc.length c)]
theorem I7 {f:Nat} (p:RS) (st:PS) (h:HW) (q:RS) (dM:PS) (n:Nat) (hp:p.ok) (hn:st.le n) (hb:n+f+4<=1099511627776) (ux:is p 0 kF=false) (hs:is p 0 lP=true) (hw:iW f p st=some (q,dM)) :
  GC Tryz.prog 145 [.loc 0 0] (tI p st h) (fun g aH=>g=.tup []/\∃ h',aH=tI q dM h'):=by
 obtain ⟨BR,cJ⟩:=id hp;obtain ⟨Dw,bI,XF,XG⟩:=hn;unfold iW at hw;rw [if_neg (by rw [ux];decide),if_pos hs] at hw;have RC:=jk p 0 kF (hx st h) hp (by decide);rw [ux] at RC;have hi:=jk p 0 lP (hx st h) hp (by decide);rw [hs] at hi;have jT:=(iM hs).ok hp
 have ef:=pU p.next (hx st h) jT
 have dD:=(gm jT).ok jT;generalize (tok p.next 0).s=s at *
 generalize bf p.next=p2 at *
 have nO:=eA p2 [40] (hx st h) dD;have yb:=(bU dD [40]).ok dD;generalize want p2 [40]=p3 at *
 cases hm:nP f [] p3 with
 | none=>rw [hm] at hw;cases hw
 | some r =>
 obtain ⟨l,q1⟩:=r;rw [hm] at hw;simp only at hw;refine ai Tryz.func145 Tryz.ntmps145 ?_;refine U [0] (RC) ?_;refine U [0] (hi) ?_;refine U [0] (ef) ?_;refine bJ ?_;refine ab ?_;refine U [0] (nO) ?_;refine GW.wk (Wk.l8 9 1) ?_;refine GW.loop (fun z:Nat × List ae × RS=>z.1) (fun z fr Γ=>∃ a c,fr=[.loc 0 0,.Zy,.Zy,.Zy,.loc 5 0,.Zy,.Zy,.Zy,.Zy,.Zy,.Zy,.Zy,.Zy,.Zy,.Zy,.Zy,.Zy,.Zy,.Zy,.Zy,.Zy,.Zy,.Zy,.Zy,.Zy,.Zy,.Zy,.Zy,.Zy,.Zy,.Zy,.Zy,.Zy,.Zy,.Zy,.Zy,.Zy,.Zy,.Zy,.Zy,.Zy,.Zy,.Zy,.Zy,.Zy,.Zy,.Zy,.Zy,.Zy,.Zy,.Zy,.Zy,.Zy,.Zy,.Zy,.Zy,.Zy,.Zy,.Zy,.Zy,.Zy,.Zy,.Zy,.Zy,.Zy,.Zy,.Zy,.Zy,.Zy,.Zy,.Zy,.Zy,.Zy,.Zy,.Zy,.Zy,.Zy,.Zy,.Zy,.Zy,.Zy,.Zy,.Zy,.Zy,.Zy,.Zy,.Zy,.Zy,.Zy,.Zy,.Zy,.Zy,.Zy,.Zy,.Zy,.Zy,.Zy,.Zy,.Zy,.Zy,.Zy,.Zy,.Zy,.Zy,.Zy,.Zy,.Zy,.Zy,.Zy,.Zy,.Zy,.Zy,.Zy,.Zy,.Zy,.Zy,.Zy,.Zy,.Zy,.Zy,.Zy,.Zy,.Zy,.Zy,.Zy,.Zy,.Zy,.Zy,.Zy,.Zy,.Zy,.Zy,.Zy,.Zy,.Zy,.Zy,.Zy,.Zy,.Zy,.Zy,.Zy,.Zy,.Zy,.Zy,.Zy,.Zy,.Zy,.Zy,.Zy,.Zy,.Zy,.Zy,.Zy]/\Γ=To z.2.2 st h s z.2.1 a c/\z.2.2.ok/\z.2.1.length+z.1<=f/\nP z.1 z.2.1 z.2.2=some (l,q1)) (f,[],p3) ?_ ?_
 ·exact ⟨_,_,Wk.ax al,none,0,rfl,rfl,yb,by simp,hm⟩
 clear hm yb nO dD ef hi RC jT;rintro ⟨g,acc,p⟩ _ _ ⟨a,c,rfl,rfl,hp,x9,hm⟩;simp only at hp x9 hm
 cases g with
 | zero=>cases hm
 | succ g =>
 rw [nP] at hm;have hi:=jk p 0 [41] (hx st h) hp (by decide)
 by_cases hgo:p.code=0/\is p 0 [41]=false
 ·obtain ⟨hc,qX⟩:=id hgo;rw [if_pos hgo] at hm;rw [qX] at hi
  have dj:(p.code==0)=true:=by simpa using hc
  by_cases h0:acc.length=0
  ·obtain rfl:=List.eq_nil_of_length_eq_zero h0
   have hd:decide ((0:Int) < (([]:List ae).length:Int))=false:=by decide
   rw [if_pos (by rfl)] at hm;have ef:=pU p (hx st h) hp;have dD:=(gm hp).ok hp;generalize (tok p 0).s=s2 at *;refine ab ?_;refine U [0] (hi) ?_;refine GW.draw (.q 0 (.q 1 (.q 2 (.a 3 (.a 4 (.a 5 (.q 6 (.a 7 .nil)))))))) (by kernel_rfl) (by kernel_rfl) ?_;refine aj ?_;refine aC [0] (ef) ?_;refine dv ?_;refine aj ?_;refine OA rfl rfl (GL.n5 6 (news:=[kv s2]) rfl rfl rfl (by first | rfl | assumption) rfl rfl (by refine ⟨?_,?_⟩;(· show _+1<=_;omega);(· show (_+1) * _<=_;omega)) ?_);intro a2 c2;refine de ?_;refine aj ?_;refine ab ?_;exact ⟨(g,[s2],bf p),⟨_,_,Wk.ax al,a2,c2,rfl,rfl,dD,by simp at x9 |-;omega,hm⟩,by simp⟩
  ·have hd:decide ((0:Int) < (acc.length:Int))=true:=by simpa using by omega
   rw [if_neg h0] at hm;have X0:=eA p [44] (hx st h) hp;have ln:=(bU hp [44]).ok hp;generalize want p [44]=pw at *;have ef:=pU pw (hx st h) ln;have dD:=(gm ln).ok ln;generalize (tok pw 0).s=s2 at *
   have hlen:(acc.map kv).length<=f:=by simp;omega
   refine ab ?_;refine U [0] (hi) ?_;refine bJ ?_;refine ab ?_;refine U [0] (X0) ?_;refine GW.draw (.q 0 (.q 1 (.q 2 (.a 3 (.a 4 (.a 5 (.q 6 (.a 7 .nil)))))))) (by kernel_rfl) (by kernel_rfl) ?_;refine aj ?_;refine aC [0] (ef) ?_;refine dv ?_;refine aj ?_;refine OA rfl rfl (GL.n5 6 (news:=[kv s2]) rfl rfl rfl (by first | rfl | assumption) rfl rfl (by refine ⟨?_,?_⟩;(· show _+1<=_;omega);(· show (_+1) * _<=_;omega)) ?_);intro a2 c2;refine de ?_
   try rw [show (acc.map kv).length+1=(acc++[s2]).length by simp]
   rw [show (acc.map kv).length+[kv s2].length=(acc++[s2]).length by simp,<-vt kv acc s2];refine aj ?_;refine ab ?_;exact ⟨(g,acc++[s2],bf pw),⟨_,_,Wk.ax al,a2,c2,rfl,rfl,dD,by simp;omega,hm⟩,by simp⟩
 ·rw [if_neg hgo] at hm
  obtain ⟨rfl,rfl⟩:acc=l/\want p [41]=q1:=by simpa using hm
  clear hm;have OM:=eA p [41] (hx st h) hp;have UT:=(bU hp [41]).ok hp
  have eP:(jB st.trees).length+1<=1099511627776:=by rw [lT];omega
  have jR:(st.fns.map o8).length+1<=1099511627776:=by simp;omega
  by_cases hc:p.code=0
  ·have dj:(p.code==0)=true:=by simpa using hc
   have qX:is p 0 [41]=true:=by
    cases h3:is p 0 [41] with
    | true=>rfl
    | false=>exact absurd ⟨hc,h3⟩ hgo
   rw [qX] at hi
   by_cases hqc:(want p [41]).code=0
   ·have MU:((want p [41]).code==0)=true:=by simpa using hqc
    rw [if_pos hqc] at hw
    cases ed:iS f (.block 1) (want p [41]) with
    | none=>rw [ed] at hw;cases hw
    | some r =>
    obtain ⟨t,qq⟩:=r;rw [ed] at hw
    obtain ⟨rfl,rfl⟩:qq=q/\_=dM:=by simpa using hw
    have dH:=(Vd f).block 1 _ t qq (hx st h) UT ah ed;clear ed hqc;generalize want p [41]=pq at *;refine ab ?_;refine U [0] (hi) ?_;refine aU ?_;refine ab ?_;refine bJ ?_;refine ab ?_;refine U [0] (OM) ?_;refine GW.draw (.q 0 (.q 1 (.q 2 (.q 3 (.q 4 (.q 5 (.a 6 (.a 7 (.a 8 (.q 9 (.q 10 (.a 11 .nil)))))))))))) (by kernel_rfl) (by kernel_rfl) ?_;refine aj ?_;refine aC [0] (dH) ?_;refine dv ?_;refine aj ?_;refine OA rfl rfl (GL.n5 1 (news:=[[qT t]]) rfl rfl rfl (by first | rfl | assumption) rfl rfl (by refine ⟨?_,?_⟩;(· show _+1<=_;omega);(· show (_+1) * _<=_;omega)) ?_);intro a3 c3;refine de ?_
    try rw [show (jB st.trees).length+1=(st.trees++[t]).length by simp [lT]]
    rw [show (jB st.trees).length+[[qT t]].length=(st.trees++[t]).length by simp [lT],<-uK st.trees t];refine aj ?_;refine ab ?_;apply GW.wk
    ·apply Wk.xC (i:=5) (o:=1) (j:=6)
     ·rfl
     ·rfl
     ·rfl
     ·rfl
    simp only [oset,bj];refine GW.draw (.q 0 (.q 1 (.q 2 (.q 3 (.q 4 (.q 5 (.q 6 (.a 7 (.a 8 (.q 9 (.q 10 (.q 11 (.a 12 .nil))))))))))))) (by kernel_rfl) (by kernel_rfl) ?_;refine aj ?_;refine dv ?_;refine aj ?_;refine OA rfl rfl (GL.n5 4 (news:=[o8 (s,acc)]) rfl rfl rfl (by first | rfl | assumption) rfl rfl (by refine ⟨?_,?_⟩;(· show _+1<=_;omega);(· show (_+1) * _<=_;omega)) ?_);intro a4 c4;refine de ?_
    try rw [show (st.fns.map o8).length+1=(st.fns++[(s,acc)]).length by simp]
    rw [show (st.fns.map o8).length+[o8 (s,acc)].length=(st.fns++[(s,acc)]).length by simp,<-vt o8 st.fns (s,acc)];refine aj ?_;refine ab ?_;refine cE ?_;exact ⟨rfl,{ h with aT:=a3,cT:=c3,aF:=a4,cF:=c4 },rfl⟩
   ·have MU:((want p [41]).code==0)=false:=by simpa using hqc
    rw [if_neg hqc] at hw;cases hw;clear hqc;generalize want p [41]=pq at *;refine ab ?_;refine U [0] (hi) ?_;refine aU ?_;refine ab ?_;refine bJ ?_;refine ab ?_;refine U [0] (OM) ?_;refine cE ?_;exact ⟨rfl,h,rfl⟩
  ·have dj:(p.code==0)=false:=by simpa using hc
   by_cases hqc:(want p [41]).code=0
   ·have MU:((want p [41]).code==0)=true:=by simpa using hqc
    rw [if_pos hqc] at hw
    cases ed:iS f (.block 1) (want p [41]) with
    | none=>rw [ed] at hw;cases hw
    | some r =>
    obtain ⟨t,qq⟩:=r;rw [ed] at hw
    obtain ⟨rfl,rfl⟩:qq=q/\_=dM:=by simpa using hw
    have dH:=(Vd f).block 1 _ t qq (hx st h) UT ah ed;clear ed hqc;generalize want p [41]=pq at *;refine ab ?_;refine aU ?_;refine ab ?_;refine bJ ?_;refine ab ?_;refine U [0] (OM) ?_;refine GW.draw (.q 0 (.q 1 (.q 2 (.q 3 (.q 4 (.q 5 (.a 6 (.a 7 (.a 8 (.q 9 (.q 10 (.a 11 .nil)))))))))))) (by kernel_rfl) (by kernel_rfl) ?_;refine aj ?_;refine aC [0] (dH) ?_;refine dv ?_;refine aj ?_;refine OA rfl rfl (GL.n5 1 (news:=[[qT t]]) rfl rfl rfl (by first | rfl | assumption) rfl rfl (by refine ⟨?_,?_⟩;(· show _+1<=_;omega);(· show (_+1) * _<=_;omega)) ?_);intro a3 c3;refine de ?_
    try rw [show (jB st.trees).length+1=(st.trees++[t]).length by simp [lT]]
    rw [show (jB st.trees).length+[[qT t]].length=(st.trees++[t]).length by simp [lT],<-uK st.trees t];refine aj ?_;refine ab ?_;apply GW.wk
    ·apply Wk.xC (i:=5) (o:=1) (j:=6)
     ·rfl
     ·rfl
     ·rfl
     ·rfl
    simp only [oset,bj];refine GW.draw (.q 0 (.q 1 (.q 2 (.q 3 (.q 4 (.q 5 (.q 6 (.a 7 (.a 8 (.q 9 (.q 10 (.q 11 (.a 12 .nil))))))))))))) (by kernel_rfl) (by kernel_rfl) ?_;refine aj ?_;refine dv ?_;refine aj ?_;refine OA rfl rfl (GL.n5 4 (news:=[o8 (s,acc)]) rfl rfl rfl (by first | rfl | assumption) rfl rfl (by refine ⟨?_,?_⟩;(· show _+1<=_;omega);(· show (_+1) * _<=_;omega)) ?_);intro a4 c4;refine de ?_
    try rw [show (st.fns.map o8).length+1=(st.fns++[(s,acc)]).length by simp]
    rw [show (st.fns.map o8).length+[o8 (s,acc)].length=(st.fns++[(s,acc)]).length by simp,<-vt o8 st.fns (s,acc)];refine aj ?_;refine ab ?_;refine cE ?_;exact ⟨rfl,{ h with aT:=a3,cT:=c3,aF:=a4,cF:=c4 },rfl⟩
   ·have MU:((want p [41]).code==0)=false:=by simpa using hqc
    rw [if_neg hqc] at hw;cases hw;clear hqc;generalize want p [41]=pq at *;refine ab ?_;refine aU ?_;refine ab ?_;refine bJ ?_;refine ab ?_;refine U [0] (OM) ?_;refine cE ?_;exact ⟨rfl,h,rfl⟩
end Go.Xg
