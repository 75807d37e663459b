/- Part 7 of proofs that are told in their last texts. -/
import Derived.Test.YtcoplmnahnipiaaGreatDoorO4
import Derived.ProofKit
import Derived.Below
import Derived.ChangeSame
import Derived.Test.YtcoplmnahnipiaaGreatDoorO5
import Derived.Lib.Builder
import Derived.Lib.UnsafeStr
import Derived.Shelf.Strings.Builder1
import Derived.Shelf.Strings.Builder2
import Derived.Shelf.Small.Strs
import Derived.Shelf.Strings.BuilderF
import Derived.Shelf.Strconv.Itoa0
import Derived.Shelf.Strconv.Itoa1
import Derived.Shelf.LaysM
import Derived.Shelf.Strconv.Itoa2
import Derived.Shelf.Strconv.Itoa3
import Derived.Shelf.Strings.Search1
import Derived.Shelf.Strings.Search2
import Derived.Shelf.Strings.Search3
import Derived.Shelf.Strings.Shaped
import Derived.Shelf.Sort.Plain
import Derived.Shelf.Strings.Prefix
import Derived.Shelf.Strings.Fields
import Derived.Shelf.Strings.SplitShaped
import Derived.Shelf.Unicode.Latin
import Derived.Shelf.Unicode.Is16White
import Derived.Shelf.Unicode.IsSpaceAny
import Derived.Shelf.Unicode.Is16Any
import Derived.Shelf.Unicode.Is32Any
import Derived.Shelf.Unicode.ExclAny
import Derived.Ground.Names2Prog
import Derived.Shelf.Slices.CompactI
import Derived.Shelf.Slices.In.SortNone
import Derived.Test.YtcoplmnahnipiaaGreatDoorProg
import Derived.Test.YtcoplmnahnipiaaGreatDoorO2
import Derived.Test.YtcoplmnahnipiaaGreatDoorO6
import Derived.Lib.OwnBridge
import Derived.Lib.AppendIntMem
import Derived.Test.YtcoplmnahnipiaaGreatDoorO1
open List (all_append all_cons all_eq_false all_eq_true all_nil drop_eq_getElem_cons flatten_cons getD_cons_succ getD_cons_zero getElem?_append_left getElem?_eq_none getElem?_map getElem_mem length_append length_cons length_map length_nil map_append map_nil mem_map mem_of_getElem? mem_singleton sum_cons take_add_one take_length take_of_length_le)
set_option linter.unusedVariables false
set_option linter.unusedSimpArgs false
set_option maxRecDepth 100000
namespace Go.Xw
open Go.RowKit Go.WideShapes Go.ChangeShapes
section
variable {H:Type} {enc:TypeId × Value->H} {P:Program}
theorem DU {f:Func} {s:ChangeSpec} {apart fresh handsOn again:Bool} {W W':World} {args:Array Value} {v:Value} {ds gs:List (DataW H)} {before pa pv:List MemPlace}
  (hW:DataW.Whole enc P f.params.toList s.vars apart W args.toList ds gs before)
  (UO:∀ (b:Nat) (sp:Nat->Bool) (hd:Bool),DataW.TrodAll enc P W' b sp hd f.resultTypes.toList (v.resultList f.resultTypes.size) (s.fn H (ds++gs)).results [])
  (AR:∀ sp:Nat->Bool,(∀ p∈before,sp p.block=true)->DataW.TrodAll enc P W' 0 sp true f.params.toList args.toList (s.fn H (ds++gs)).args pa)
  (Rh:∀ sp:Nat->Bool,(∀ p∈before,sp p.block=true)->DataW.TrodVars enc P W' sp s.vars (s.fn H (ds++gs)).vars pv)
  (Dd:before=pa++pv) (hb:Below W.heap.size W W')
  (eH:∀ (j:Nat) (t:TypeId) (r:Value),f.resultTypes[j]?=some t->(v.resultList f.resultTypes.size)[j]?=some r->Value.okWide P W' .any 0 t r) :
  s.post enc P f apart fresh handsOn again W args v W':=by
 have ao:∀ p∈before,p.block < W.heap.size:=fun p hp=>hW.lt p hp
 have hold:∀ p∈before,(fun b=>decide (b < W.heap.size)) p.block=true:=fun p hp=>by simpa using ao p hp
 refine ⟨ds,gs,before,[],pa,pv,hW,UO _ _ _,AR _ hold,Rh _ hold,World.keptBut_mono (fun p hp=>⟨hp,?_⟩) (hb.frame (·∈before)),fun _=>?_⟩
 ·rw [Dd,List.mem_append] at hp;exact Or.inr hp
 ·obtain ⟨_,_,_,_,_,hz,hn⟩:=hW;refine ⟨eH,_,_,([]++pa)++pv,⟨[]++pa,pv,trodAll_append (AR _ (fun _ _=>rfl)) (UO _ _ _),Rh _ (fun _ _=>rfl),rfl,?_,?_⟩,?_⟩
  ·intro b off hp
   have gV:MemPlace.cell b off∈before:=by rw [Dd];simpa using hp
   rw [hb.frozen (ao _ gV)];exact hz b off gV
  ·intro ha;have:=hn ha;rw [Dd] at this;simpa using this
  ·intro p hp _;rw [Dd];simpa using hp
end
end Go.Xw
namespace Go.Xg
open Go.RowKit Go.Xw
class BH (P:Program) (t:TypeId):Prop where
 und:∃ e j,P.underlying t=some (.pointer e)/\P.info? e=some j
theorem BH.mk' {P:Program} {t e:TypeId} (h:P.underlying t=some (.pointer e)) (k:(P.info? e).isSome=true):BH P t:=⟨e,(P.info? e).get k,h,by simp⟩
section
variable {P:Program} {m:Nat} {Q:dP} {fr:List GV} {Γ:List Ob} {ops:Array Oper} {rest:List Oper} {d:Option Tmp} {op:Op} {ty:TypeId} {pos:String} {af:Array Edge}
theorem YG.AB {x y:Operand} {t t':TypeId} [hT:BH P t] {i o:Nat} (hx:aV fr x=.loc i o) (hy:aV fr y=.v (.pointer none)):YG P (.binOp .eql t x y t') fr Γ (.v (.bool false)):=fun B K β w l hI hF=>by
 have h:=hF.ev x;rw [hx] at h;generalize hv:ev l x=v at h
 cases h with
 | loc _ _ b hb =>
  obtain ⟨e,j,h1,h2⟩:=hT.und
  have hp:P.pointee t=e:=by simp [Program.pointee,h1]
  have:=run_eql_pointer_nil (P:=P) w t (some ⟨b,o,none⟩) (by rw [hp];exact h1);refine ⟨_,fun d ty pos af=>?_,.v _⟩;simp [execOp,eqGuard,hv,hF.gy hy,this]
theorem YG.Bh {x y:Operand} {t t':TypeId} [hT:BH P t] {i o:Nat} (hx:aV fr x=.loc i o) (hy:aV fr y=.loc i o):YG P (.binOp .neq t x y t') fr Γ (.v (.bool false)):=fun B K β w l hI hF=>by
 have h:=hF.ev x;rw [hx] at h;have h':=hF.ev y;rw [hy] at h';generalize hv:ev l x=v at h;generalize A8:ev l y=v' at h'
 cases h with
 | loc _ _ b hb =>
  cases h' with
  | loc _ _ b' bt =>
   rw [hb] at bt;cases bt;obtain ⟨e,j,h1,h2⟩:=hT.und;have:=Lib.run_neq_ptr_same (P:=P) w ⟨b,o,none⟩ h1 h2;refine ⟨_,fun d ty pos af=>?_,.v _⟩;simp [execOp,eqGuard,hv,A8,this]
theorem Inv.again {B:Bs} {K:Fz} {β:Bt} {Γ:List Ob} {w w':World} {i E k:Nat} {rows:List (List GV)} {x:Value} {xs:List Value} (h:Inv B K β Γ w) (hi:Γ[i]?=some (.vech E k rows x)) (ho:gC w' 0 E k x rows.length xs) (hr:bb K β xs rows.flatten)
  (hx:Ext (fun b=>x.ownBlock=some b) w w'):Inv B K β Γ w':=by
 obtain ⟨xs0,h1,h2,h3,h4,h5⟩:=h.ob i _ hi
 have eo:∀ b,x.ownBlock=some b->(β i).blk=some b:=fun b hb=>by rw [h1];exact hb
 refine ⟨h.ext.step hx (fun j hj=>(h.own i j (eo j hj)).symm),h.kle,h.ble,h.loc,h.fz.ext hx (fun b o g hg he=>by rw [h5 b he o] at hg;cases hg),fun j y hj=>?_,h.out,h.dis,h.own,h.kn,h.tab.step hx (fun j hj=>⟨i,eo j hj⟩) (cq.refl K) (fun i b2 h=>.inl ⟨i,h⟩)⟩
 by_cases oa:j=i
 ·subst oa;rw [hi] at hj;cases hj;exact ⟨xs,h1,ho,hr,h4,h5⟩
 ·exact (h.ob j y hj).ext hx (fun b hb he=>oa (h.dis j i b hb (eo b he))) (cq.refl K) (cZ.refl β) rfl (fun _ _ _ h=>h)
theorem GL.V8 {s x:Operand} {t u e:Nat} [hT:CH P t e] [hU:pB P u] (i:Nat) {n:Nat} {dt:Tmp} {v:Value} {rows:List (List GV)} {str:ai} (hx:aV fr x=.v (sv str)) (hs:aV fr s=.v v) (bB:Γ[i]?=some (.vech e 1 rows v)) (hn:rows.length=n) (bJ:str.isEmpty=false)
  (hb:n+str.length<=140737488355328)
  (h:∀ a c,GL P m ops Q rest (bu fr (some dt) (.v (.slice a (n+str.length) c))) (oset Γ i (.vech e 1 (rows++cr str) (.slice a (n+str.length) c)))) :
  GL P m ops Q (⟨some dt,.call ⟨.builtin .append,#[s,x],#[t,u]⟩,ty,pos,af,none⟩::rest) fr Γ:=fun B K β w l hm hI hF=>by
 subst hn
 have bJ:str≠[]:=by intro h0;rw [h0] at bJ;cases bJ
 obtain ⟨xs,o1,o2,o3,o4,o5⟩:=hI.ob i _ bB;have qm:ev l s=v:=hF.gy hs
 have jB:(cr str).flatten=str.map fun c=>GV.v (.int .u8 (c.toNat:Int)):=by
  unfold cr;clear hx bJ hb h;generalize str=s
  induction s with
  | nil=>rfl
  | cons c r ih=>simp only [List.map_cons,flatten_cons,ih];rfl
 have hlen:(cr str).length=str.length:=by simp [cr]
 refine WL.BK (base:=0) (v:=v) (n:=rows.length) (xs:=xs) (str:=str) qm o2 (hF.gy hx) hb (Nat.zero_le _) ?_;intro v' w' how gI oD va
 obtain ⟨K',hK,qn,bj⟩:=(hI.yd bB).grow (fz:=0) (oZ bB) o1 ⟨o2,o3⟩ (news:=cr str) (ns:=kz str) (by rw [hlen];exact how) gI oD (by rw [jB];exact (by
   have:(str.map fun c=>GV.v (.int .u8 (c.toNat:Int)))=ll (kz str):=by simp [ll,kz]
   rw [this];exact bb.self)) (fun r hr=>by
   simp only [cr,mem_map] at hr;obtain ⟨c,_,rfl⟩:=hr
   exact ⟨rfl,fun g hg=>by rw [mem_singleton] at hg;subst hg;rfl⟩) (by intro h0;exact bJ (List.map_eq_nil_iff.1 h0)) (fun b bt o v ho hv=>by omega)
 rw [<-bc,nF] at bj;obtain ⟨a,c,pI,n7⟩:=bj.sQ (oZ bB);rw [nF] at n7;obtain ⟨a',c',rfl⟩:=how.shape;rw [bm] at pI;simp only [length_append,hlen] at pI n7 qn;cases pI;exact h _ _ B K' _ w' _ hm n7 ((hF.mono hK qn).put (some dt) (.v _))
theorem GL.V7 {s x:Operand} {t u e:Nat} [hT:CH P t e] [hU:pB P u] (i:Nat) {rows:List (List GV)} {v:Value} (hx:aV fr x=.v (sv [])) (hs:aV fr s=.v v) (bB:Γ[i]?=some (.vech e 1 rows v)) (hb:rows.length<=140737488355328)
  (h:GL P m ops Q rest (bu fr d (.v v)) Γ):GL P m ops Q (⟨d,.call ⟨.builtin .append,#[s,x],#[t,u]⟩,ty,pos,af,none⟩::rest) fr Γ:=fun B K β w l hm hI hF=>by
 obtain ⟨xs,o1,o2,o3,o4,o5⟩:=hI.ob i _ bB;have qm:=hF.gy hs;have rn:=hF.gy hx;obtain ⟨hu,i',hi,hz,cR,xB⟩:=hT.is;have sV:(⟨([]:ai).toArray⟩:ByteArray).size=0:=rfl;obtain ⟨v',w',hr,h2,h3,h4⟩:=Lib.run_append_own_string (P:=P) w 0 t u ty e i' hu hU.und hi hz cR xB v rows.length xs o2 ⟨([]:ai).toArray⟩ (by rw [sV];simp only [maxLen];omega) (by rw [sV];omega) (Nat.zero_le _)
 have A8:v'=v:=by
  rcases o2.2 with ⟨rfl,h6⟩ | ⟨g,cap,cur,rfl,nA,hg,oH,wU,eM,A6⟩
  ·exact h4.2 ⟨rfl,rfl⟩
  ·have Ut:cur.size=cap:=by simpa using eM
   have dd:=Lib.run_append_room_string (P:=P) w t u ty e i' hu hU.und hi cR g rows.length cap cur hg ⟨([]:ai).toArray⟩ (by rw [sV];omega) (by unfold maxLen at wU;rw [sV];omega);rw [hr] at dd;cases dd;rfl
 subst A8;have mT:(Builtin.append_ #[t,u] ty #[v',sv []]).run P w=.ok v' w':=hr;have eM:Lib.strCells ⟨([]:ai).toArray⟩=[]:=rfl;rw [eM,List.append_nil] at h2;have gI:Ext (fun b=>v'.ownBlock=some b) w w':=⟨h3.os,h3.tape,h3.output,h3.size,fun j hj hn=>h3.block j hj fun he=>hn he.symm⟩;have bj:=hI.again bB h2 o3 gI;exact WL.val (v:=v') (w':=w') (by simp [execOp,resolve,invoke,builtin,qm,rn,mT]) (h B K β w' _ hm bj (hF.put d (.v _)))
theorem YG.vw {x:Operand} {t:TypeId} (i:Nat) {E n c:Nat} {a:Option Addr} {rows:List (List GV)} (hx:aV fr x=.v (.slice a n c)) (bB:Γ[i]?=some (.vech E 1 rows (.slice a n c))) (hn:rows.length=n) (hp:Nat.blt 0 n=true) :
  YG P (.call ⟨.builtin .unsafeSliceData,#[x],#[t]⟩) fr Γ (.vp i n 1 0 0):=fun B K β w l hI hF=>by
 subst hn
 have hp:0 < rows.length:=by simpa using hp
 obtain ⟨xs,h1,h2,h3,h4,h5⟩:=hI.ob i _ bB;have hv:=hF.gy hx
 rcases h2.2 with ⟨h8,h9⟩ | ⟨g,cap,cur,h8,_,hg,oH,_⟩
 ·omega
 ·cases h8
  have hr:=fun ts ty=>Lib.run_unsafeSliceData_row (P:=P) (w:=w) ts ty ⟨g,0,none⟩ rows.length c ah
  exact ⟨.pointer (some ⟨g,0,none⟩),fun d ty pos af=>by simp [execOp,resolve,invoke,builtin,hv,hr],.vp i _ 1 0 0 _ ⟨_,_,h1,Nat.le_refl _,fun _=>⟨g,rfl,by simp⟩⟩⟩
theorem GL.Oc {x y:Operand} {pt it e:TypeId} (i:Nat) {str:ai} {rows:List (List GV)} {v:Value} (hp:P.underlying pt=some (.pointer e)) (hc:P.cellsOf e=1) (hx:aV fr x=.vp i str.length 1 0 0) (hy:aV fr y=.v (ii str.length)) (bB:Γ[i]?=some (.vech e 1 rows v)) (ke:rows=cr str)
  (bJ:str.isEmpty=false) (hb:str.length<=140737488355328)
  (h:GL P m ops Q rest (bu fr d (.v (sv str))) (oset Γ i .lost)):GL P m ops Q (⟨d,.call ⟨.builtin .unsafeString,#[x,y],#[pt,it]⟩,ty,pos,af,none⟩::rest) fr Γ:=fun B K β w l hm hI hF=>by
 have bJ:str≠[]:=by intro h0;rw [h0] at bJ;cases bJ
 subst ke;obtain ⟨xs,o1,o2,o3,o4,o5⟩:=hI.ob i _ bB
 have hlen:(cr str).length=str.length:=by simp [cr]
 have hr:=hF.ev x;rw [hx] at hr;have U4:=hF.gy hy;generalize hv:ev l x=u at hr
 cases hr with
 | vp _ _ _ _ _ _ hh =>
  obtain ⟨h0,mm,e1,e2,e3⟩:=hh;rw [e1] at o1;cases o1;obtain ⟨b,QX,rfl⟩:=e3 hlen
  rcases o2.2 with ⟨h8,h9⟩ | ⟨g,cap,cur,h8,_,hg,oH,wU,eM,A6⟩
  ·rw [hlen] at h9;exact absurd (List.eq_nil_of_length_eq_zero h9) bJ
  ·subst h8;simp only [Value.ownBlock,Option.some.injEq] at QX;subst QX
   have nC:xs=kz str:=by
    have jB:(cr str).flatten=ll (kz str):=by
     have:(cr str).flatten=str.map fun c=>GV.v (.int .u8 (c.toNat:Int)):=by
      unfold cr;generalize str=s
      induction s with
      | nil=>rfl
      | cons c r ih=>simp only [List.map_cons,flatten_cons,ih];rfl
     rw [this];simp [ll,kz]
    rw [jB] at o3;apply List.ext_getElem
    ·have:=o3.1;simpa [ll] using this
    ·intro j h1 h2;have:=o3.2 j xs[j] (.v (kz str)[j]) (by simp [h1]) (by simp [ll,h2]);exact Rel.eD this
   have ln:∀ j y,str[j]?=some y->w.cell? ((⟨g,0,none⟩:Addr).add j)=some (.int .u8 y.toNat):=fun j y hy=>by
    have:=World.ownsRow.cells (g:=g) o2 rfl j (.int .u8 y.toNat) (by rw [nC];simp [kz,hy]);exact this
   have aac:(cr str).length<=cur.size:=by rw [eM];omega
   have mT:=Lib.run_unsafeString_row (P:=P) w pt it ty e hp hc g cur.size (by simp [World.shape?,hg]) str bJ ah ah ln
   have gI:Ext (·=g) w (w.freeze ⟨g,0,none⟩ str.length):=by
    have:=Lib.below_freeze (Below.refl 0 w) (p:=⟨g,0,none⟩) (Nat.zero_le g) str.length
    exact ⟨this.os,this.tape,this.output,this.size,fun k hk hn=>by
     unfold World.freeze;split
     ·rfl
     ·simp only [Array.getElem?_modify]
      rw [if_neg (fun he=>hn he.symm)]⟩
   have eo:(β i).blk=some g:=by rw [e1];rfl
   have bj:Inv B K β (oset Γ i .lost) (w.freeze ⟨g,0,none⟩ str.length):=by
    refine ⟨hI.ext.step gI (fun j hj=>by subst hj;exact (hI.own i _ eo).symm),hI.kle,hI.ble,hI.loc,hI.fz.ext gI (fun b o g' jQ he=>by subst he;rw [o5 _ rfl o] at jQ;cases jQ),fun j y hj=>?_,fun j hj=>hI.out j (by simpa [bc] using hj),hI.dis,hI.own,hI.kn,hI.tab.step gI (fun j hj=>⟨i,by subst hj;exact eo⟩) (cq.refl K) (fun i b2 h=>.inl ⟨i,h⟩)⟩;rw [bc,List.getElem?_set] at hj;split at hj
    ·rename_i fq;split at hj
     ·cases hj;subst fq
      intro b bt;rw [eo] at bt;cases bt;have:=rq hg;exact Nat.lt_of_lt_of_le this gI.size
     ·cases hj
    ·rename_i fq;exact (hI.ob j y hj).ext gI (fun b hb he=>by subst he;exact fq (hI.dis i j _ eo hb)) (cq.refl K) (cZ.refl β) rfl (fun _ _ _ h=>h)
   exact WL.val (v:=sv str) (w':=w.freeze ⟨g,0,none⟩ str.length) (by simp [execOp,resolve,invoke,builtin,hv,U4,mT,sv]) (h B K β _ _ hm bj (hF.put d (.v _)))
theorem Inv.QF {B:Bs} {K:Fz} {β:Bt} {Γ:List Ob} {w:World} {x:Bk} {y:Ob} (h:Inv B K β Γ w) (hd:∀ b,x.blk=some b->(∀ i,(β i).blk≠some b)/\B.w0.heap.size<=b/\(b≠3/\b≠0))
  (ho:km K (eC β Γ.length x) w Γ.length y) (hold:cZ β (eC β Γ.length x)):Inv B K (eC β Γ.length x) (Γ++[y]) w:=by
 refine ⟨h.ext,h.kle,h.ble.trans hold,h.loc,h.fz,fun i z hi=>?_,fun i hi=>?_,fun i j b hi hj=>?_,fun i b hi=>?_,h.kn,⟨h.tab.le,h.tab.pow,h.tab.spc,fun i b hi=>?_⟩⟩
 ·by_cases u9:i < Γ.length
  ·rw [getElem?_append_left u9] at hi;exact (h.ob i z hi).ext (S:=ic) (Ext.refl w) (fun _ _ h=>h) (cq.refl K) hold (bE ah) (fun _ _ _ h=>h)
  ·have:i=Γ.length:=by have:=(List.getElem?_eq_some_iff.1 hi).1;simp at this;omega
   subst this;simp at hi;subst hi;exact ho
 ·simp at hi;rw [bE ah];exact h.out i ah
 ·by_cases h1:i=Γ.length <;> by_cases h2:j=Γ.length
  ·omega
  ·subst h1;rw [bm] at hi;rw [bE h2] at hj;exact absurd hj ((hd b hi).1 j)
  ·subst h2;rw [bm] at hj;rw [bE h1] at hi;exact absurd hi ((hd b hj).1 i)
  ·rw [bE h1] at hi;rw [bE h2] at hj;exact h.dis i j b hi hj
 ·rcases lU hi with h1 | h1
  ·exact .inr (hd b h1).2.1
  ·exact h.own i b h1
 ·rcases lU hi with h1 | h1
  ·exact (hd b h1).2.2
  ·exact h.tab.free i b h1
theorem YG.Xh {x lo:Operand} {t e:TypeId} {k:Nat} [hT:mj P t e k] {rows:List (List GV)} {kk:IntKind} {i:Nat} (hx:aV fr x=.sl k rows) (ik:aV fr lo=.v (.int kk i)) (hi:Nat.blt i rows.length=true):YG P (.slice t x (some lo) none none) fr Γ (.sl k (rows.drop i)):=fun B K β w l hI hF=>by
 have hi:i < rows.length:=by simpa using hi
 have h:=hF.ev x;rw [hx] at h;have Ig:=hF.gy ik;generalize hv:ev l x=v at h
 cases h with
 | sl0 a c=>simp at hi
 | sl b o c _ _ h hc =>
  refine ⟨.slice (some ⟨b,o+i * k,none⟩) (rows.length - i) (c - i),fun d ty pos af=>?_,?_⟩
  ·have n9:¬ (c=i):=by omega
   have hle:(i:Int)<=(rows.length:Int):=by omega
   simp [execOp,Instr.sliceAt,Instr.slice,Instr.sliceBounds,Instr.sliceBound,asIntOf,hv,Ig,run_underlying hT.und,iJ hT.siz,n9,Nat.le_of_lt hi,pC]
  ·have:=Rel.sl (K:=K) (β:=β) b (o+i * k) (c - i) k (rows.drop i) (fun j r hr=>?_) (by simp;omega)
   ·rw [List.length_drop] at this;exact this
   ·rw [List.getElem?_drop] at hr;refine ⟨(h (i+j) r hr).1,fun q g hg=>?_⟩;have:=(h (i+j) r hr).2 q g hg;rw [Nat.add_mul] at this;rw [show o+i * k+j * k+q=o+(i * k+j * k)+q by omega];exact this
theorem YG.ya {x lo:Operand} {t e:TypeId} {k:Nat} [hT:mj P t e k] {rows:List (List GV)} {kk:IntKind} {n:Int} (i:Nat) (hx:aV fr x=.sl k rows) (ik:aV fr lo=.v (.int kk n)) (hn:n=(i:Int)) (hi:Nat.blt i rows.length=true):YG P (.slice t x (some lo) none none) fr Γ (.sl k (rows.drop i)):=by
 subst hn;exact YG.Xh hx ik hi
end
end Go.Xg
namespace Go.Proofs
open Go.Shelf
theorem cx {α:Type} {a:Option α} {b c:α} (h:a=some b) (k:b=c:=by kernel_rfl):a=some c:=h.trans (congrArg some k)
def Tryz.zn:Go.Shelf.Ren:=⟨fun | 165=>228 | 240=>263 | 241=>264 | 276=>285 | 277=>286 | n=>n,fun | 70=>225 | 3=>3 | 0=>0 | 4=>4 | 9=>9 | 20=>20 | 72=>227 | 37=>143 | 164=>270 | 5=>5 | n=>n,fun | n=>n⟩
theorem Tryz.SG:Go.Proofs.Lays.n165 Tryz.prog Tryz.zn:={
 mixed:=by kernel_rfl
 f165:=cx Tryz.func228
 f240:=cx Tryz.func263
 f241:=cx Tryz.func264
 f276:=cx Tryz.func285
 f277:=cx Tryz.func286
 t0:=Tryz.underlying0
 a0:=Tryz.isAgg0
 z0:=Tryz.sizeOf0
 v0:=Tryz.zeroValue0
 t3:=Tryz.underlying3
 a3:=Tryz.isAgg3
 z3:=Tryz.sizeOf3
 v3:=Tryz.zeroValue3
 t4:=Tryz.underlying4
 a4:=Tryz.isAgg4
 z4:=Tryz.sizeOf4
 v4:=Tryz.zeroValue4
 t9:=Tryz.underlying9
 a9:=Tryz.isAgg9
 z9:=Tryz.sizeOf9
 v9:=Tryz.zeroValue9
 t20:=Tryz.underlying20
 a20:=Tryz.isAgg20
 z20:=Tryz.sizeOf20
 v20:=Tryz.zeroValue20
 t37:=Tryz.underlying143
 a37:=Tryz.isAgg143
 z37:=Tryz.sizeOf143
 v37:=Tryz.zeroValue143
 t70:=Tryz.underlying225
 a70:=Tryz.isAgg225
 z70:=Tryz.sizeOf225
 v70:=Tryz.zeroValue225
 t72:=Tryz.underlying227
 a72:=Tryz.isAgg227
 z72:=Tryz.sizeOf227
 v72:=Tryz.zeroValue227
 t164:=Tryz.underlying270
 a164:=Tryz.isAgg270
 z164:=Tryz.sizeOf270
 v164:=Tryz.zeroValue270 }
theorem Tryz.yS:Builder.Extra Tryz.prog Tryz.zn:={
 sizeBuilder:=by kernel_rfl
 liesBuilder:=by kernel_rfl
 t5:=Tryz.underlying5
 a5:=Tryz.isAgg5
 z5:=Tryz.sizeOf5
 v5:=Tryz.zeroValue5
 infoByte:=by kernel_rfl
 cellsByte:=by kernel_rfl
 sizeByte:=by kernel_rfl
 neB5:=by decide }
open Go.RowKit in
theorem Tryz.Builder_Grow_fresh (B b n:Nat) (w:World) (hB:B<=b) (eo:w.heap[b]?=some (.cells #[.pointer none,.slice none 0 0] 227 (0,0))) (hBw:B<=w.heap.size) (hn:n<=281474976710656) :
  Calls Tryz.prog 228 #[.pointer (some ⟨b,0,none⟩),.int .i64 n] w fun e w'=>e=.returned (.tuple #[])/\(Lib.BuilderAt 227 5 B b (.pointer (some ⟨b,0,none⟩)) [] w'/\Below B w w'):=Any.Builder_Grow_fresh Tryz.SG Tryz.yS B b n w hB eo hBw hn
def Tryz.Hf:Go.Shelf.Ren:=⟨fun | 137=>202 | 217=>235 | 266=>266 | n=>n,fun | 9=>9 | 5=>5 | 3=>3 | n=>n,fun | n=>n⟩
theorem Tryz.SD:Go.Proofs.Lays.n137 Tryz.prog Tryz.Hf:={
 mixed:=by kernel_rfl
 f137:=cx Tryz.func202
 f217:=cx Tryz.func235
 f266:=cx Tryz.func266
 t3:=Tryz.underlying3
 a3:=Tryz.isAgg3
 z3:=Tryz.sizeOf3
 v3:=Tryz.zeroValue3
 t5:=Tryz.underlying5
 a5:=Tryz.isAgg5
 z5:=Tryz.sizeOf5
 v5:=Tryz.zeroValue5
 t9:=Tryz.underlying9
 a9:=Tryz.isAgg9
 z9:=Tryz.sizeOf9
 v9:=Tryz.zeroValue9 }
open Go.RowKit in
theorem Tryz.strings_IndexByte (s:ByteArray) (c:Int) (w:World) :
  Calls Tryz.prog 202 #[.string s,.int .u8 c] w fun e w'=>e=.returned (.int .i64 (Lib.indexByte s.data.toList c.toNat.toUInt8))/\w'=w:=Any.strings_IndexByte Tryz.SD s c w
def Tryz.Vd:Go.Shelf.Ren:=⟨fun | 246=>262 | 283=>281 | 284=>282 | 285=>283 | 286=>284 | 129=>184 | 317=>295 | 318=>296 | 319=>297 | 320=>298 | 337=>302 | 338=>303 | n=>n,fun | 2=>2 | 3=>3 | 9=>9 | 4=>4 | 171=>266 | 0=>0 | 53=>177 | 37=>143 | 5=>5 | 173=>268 | 212=>287 | 51=>175 | 20=>20 | 213=>288 | 46=>142 | 232=>294 | 233=>295 | n=>n,fun | 17=>3 | 18=>4 | 19=>5 | n=>n⟩
def Tryz.Vc:Go.Shelf.Ren:=⟨fun | 243=>227 | 246=>262 | 283=>281 | 284=>282 | 285=>283 | 286=>284 | 129=>184 | 317=>295 | 318=>296 | 319=>297 | 320=>298 | 337=>302 | 338=>303 | n=>n,fun | 3=>3 | 9=>9 | 2=>2 | 4=>4 | 171=>266 | 0=>0 | 53=>177 | 37=>143 | 5=>5 | 173=>268 | 212=>287 | 51=>175 | 20=>20 | 213=>288 | 46=>142 | 232=>294 | 233=>295 | n=>n,fun | 17=>3 | 18=>4 | 19=>5 | n=>n⟩
def Tryz.FB:Go.Shelf.Ren:=⟨fun | 171=>195 | 243=>227 | 246=>262 | 283=>281 | 284=>282 | 285=>283 | 286=>284 | 129=>184 | 317=>295 | 318=>296 | 319=>297 | 320=>298 | 337=>302 | 338=>303 | n=>n,fun | 3=>3 | 9=>9 | 2=>2 | 4=>4 | 171=>266 | 0=>0 | 53=>177 | 37=>143 | 5=>5 | 173=>268 | 212=>287 | 51=>175 | 20=>20 | 213=>288 | 46=>142 | 232=>294 | 233=>295 | n=>n,fun | 17=>3 | 18=>4 | 19=>5 | n=>n⟩
theorem Tryz.PH:Go.Proofs.LaysM.n171 Tryz.prog Tryz.FB:={
 mixed:=by kernel_rfl
 f129:=cx Tryz.func184
 f171:=cx Tryz.func195
 f243:=cx Tryz.func227
 f246:=cx Tryz.func262
 f283:=cx Tryz.func281
 f284:=cx Tryz.func282
 f285:=cx Tryz.func283
 f286:=cx Tryz.func284
 f317:=cx Tryz.func295
 f318:=cx Tryz.func296
 f319:=cx Tryz.func297
 f320:=cx Tryz.func298
 f337:=cx Tryz.func302
 f338:=cx Tryz.func303
 t0:=Tryz.underlying0
 a0:=Tryz.isAgg0
 z0:=Tryz.sizeOf0
 v0:=Tryz.zeroValue0
 t2:=Tryz.underlying2
 a2:=Tryz.isAgg2
 z2:=Tryz.sizeOf2
 v2:=Tryz.zeroValue2
 t3:=Tryz.underlying3
 a3:=Tryz.isAgg3
 z3:=Tryz.sizeOf3
 v3:=Tryz.zeroValue3
 t4:=Tryz.underlying4
 a4:=Tryz.isAgg4
 z4:=Tryz.sizeOf4
 v4:=Tryz.zeroValue4
 t5:=Tryz.underlying5
 a5:=Tryz.isAgg5
 z5:=Tryz.sizeOf5
 v5:=Tryz.zeroValue5
 t9:=Tryz.underlying9
 a9:=Tryz.isAgg9
 z9:=Tryz.sizeOf9
 v9:=Tryz.zeroValue9
 t20:=Tryz.underlying20
 a20:=Tryz.isAgg20
 z20:=Tryz.sizeOf20
 v20:=Tryz.zeroValue20
 t37:=Tryz.underlying143
 a37:=Tryz.isAgg143
 z37:=Tryz.sizeOf143
 v37:=Tryz.zeroValue143
 t46:=Tryz.underlying142
 a46:=Tryz.isAgg142
 z46:=Tryz.sizeOf142
 v46:=Tryz.zeroValue142
 t51:=Tryz.underlying175
 a51:=Tryz.isAgg175
 z51:=Tryz.sizeOf175
 v51:=Tryz.zeroValue175
 t53:=Tryz.underlying177
 a53:=Tryz.isAgg177
 z53:=Tryz.sizeOf177
 v53:=Tryz.zeroValue177
 t171:=Tryz.underlying266
 a171:=Tryz.isAgg266
 z171:=Tryz.sizeOf266
 v171:=Tryz.zeroValue266
 t173:=Tryz.underlying268
 a173:=Tryz.isAgg268
 z173:=Tryz.sizeOf268
 v173:=Tryz.zeroValue268
 t212:=Tryz.underlying287
 a212:=Tryz.isAgg287
 z212:=Tryz.sizeOf287
 v212:=Tryz.zeroValue287
 t213:=Tryz.underlying288
 a213:=Tryz.isAgg288
 z213:=Tryz.sizeOf288
 t232:=Tryz.underlying294
 a232:=Tryz.isAgg294
 z232:=Tryz.sizeOf294
 v232:=Tryz.zeroValue294
 t233:=Tryz.underlying295
 a233:=Tryz.isAgg295
 z233:=Tryz.sizeOf295
 v233:=Tryz.zeroValue295
 g17:=by kernel_rfl
 g18:=by kernel_rfl
 g19:=by kernel_rfl
 i0:=by kernel_rfl
 i2:=by kernel_rfl
 i3:=by kernel_rfl
 i4:=by kernel_rfl
 i5:=by kernel_rfl
 i9:=by kernel_rfl
 i20:=by kernel_rfl
 i37:=by kernel_rfl
 i46:=by kernel_rfl
 i51:=by kernel_rfl
 i53:=by kernel_rfl
 i171:=by kernel_rfl
 i173:=by kernel_rfl
 i212:=by kernel_rfl
 i232:=by kernel_rfl
 i233:=by kernel_rfl
 m17:=by kernel_rfl
 m18:=by kernel_rfl
 m19:=by kernel_rfl }
open Go.RowKit Go.Sort Go.Lib in
theorem Tryz.strconv_Itoa (n:Int) (h0 : -9223372036854775808<=n) (h1:n<=9223372036854775807) (w:World) (zS:Lib.TabIs Tryz.prog w "internal/strconv.uint64pow10" .u64 Lib.pow10Tab) :
  Calls Tryz.prog 195 #[.int .i64 n] w fun e w'=>e=.returned (.string ⟨(Lib.itoa n).toArray⟩)/\∃ k os,w'=grow (w.drewN k) os:=Any.strconv_Itoa Tryz.PH n h0 h1 w zS
def Tryz.V3:Go.Shelf.Ren:=⟨fun | 219=>237 | 217=>235 | 225=>267 | 224=>268 | 267=>269 | 266=>266 | 314=>287 | n=>n,fun | 9=>9 | 3=>3 | 4=>4 | 5=>5 | 46=>142 | 146=>273 | 51=>175 | n=>n,fun | 1=>1 | n=>n⟩
def Tryz.Hg:Go.Shelf.Ren:=⟨fun | 143=>204 | 219=>237 | 217=>235 | 225=>267 | 224=>268 | 267=>269 | 266=>266 | 314=>287 | n=>n,fun | 9=>9 | 3=>3 | 4=>4 | 5=>5 | 46=>142 | 146=>273 | 51=>175 | n=>n,fun | 1=>1 | n=>n⟩
theorem Tryz.SE:Go.Proofs.Lays.n143 Tryz.prog Tryz.Hg:={
 mixed:=by kernel_rfl
 f143:=cx Tryz.func204
 f217:=cx Tryz.func235
 f219:=cx Tryz.func237
 f224:=cx Tryz.func268
 f225:=cx Tryz.func267
 f266:=cx Tryz.func266
 f267:=cx Tryz.func269
 f314:=cx Tryz.func287
 t3:=Tryz.underlying3
 a3:=Tryz.isAgg3
 z3:=Tryz.sizeOf3
 v3:=Tryz.zeroValue3
 t4:=Tryz.underlying4
 a4:=Tryz.isAgg4
 z4:=Tryz.sizeOf4
 v4:=Tryz.zeroValue4
 t5:=Tryz.underlying5
 a5:=Tryz.isAgg5
 z5:=Tryz.sizeOf5
 v5:=Tryz.zeroValue5
 t9:=Tryz.underlying9
 a9:=Tryz.isAgg9
 z9:=Tryz.sizeOf9
 v9:=Tryz.zeroValue9
 t46:=Tryz.underlying142
 a46:=Tryz.isAgg142
 z46:=Tryz.sizeOf142
 v46:=Tryz.zeroValue142
 t51:=Tryz.underlying175
 a51:=Tryz.isAgg175
 z51:=Tryz.sizeOf175
 v51:=Tryz.zeroValue175
 t146:=Tryz.underlying273
 a146:=Tryz.isAgg273
 z146:=Tryz.sizeOf273
 v146:=Tryz.zeroValue273
 g1:=by kernel_rfl }
open Go.RowKit Go.Lib in
theorem Tryz.strings_Index (s sub:ByteArray) (m:Int) (w:World) (hs:s.size < 4294967281) (hm:w.cell? ⟨1,0,none⟩=some (.int .i64 m)) :
  Calls Tryz.prog 204 #[.string s,.string sub] w fun e w'=>e=.returned (.int .i64 (Lib.index s.data.toList sub.data.toList))/\w'=w:=Any.strings_Index Tryz.SE s sub m w hs hm
def Tryz.Hh:Go.Shelf.Ren:=⟨fun | 189=>105 | 125=>142 | 257=>141 | 128=>183 | 129=>184 | 294=>174 | 295=>175 | 296=>176 | 297=>177 | 298=>178 | 299=>179 | 216=>180 | 300=>181 | 301=>182 | 328=>210 | 329=>211 | 330=>212 | 331=>213 | 332=>214 | 215=>215 | 343=>246 | n=>n,fun | 28=>40 | 3=>3 | 46=>142 | 0=>0 | 51=>175 | 53=>177 | 4=>4 | 183=>167 | 182=>166 | 131=>172 | 5=>5 | 9=>9 | 218=>210 | 222=>214 | 228=>242 | 229=>108 | n=>n,fun | n=>n⟩
theorem Tryz.Iw:Go.Proofs.Lays.n189 Tryz.prog Tryz.Hh:={
 mixed:=by kernel_rfl
 f125:=cx Tryz.func142
 f128:=cx Tryz.func183
 f129:=cx Tryz.func184
 f189:=cx Tryz.func105
 f215:=cx Tryz.func215
 f216:=cx Tryz.func180
 f257:=cx Tryz.func141
 f294:=cx Tryz.func174
 f295:=cx Tryz.func175
 f296:=cx Tryz.func176
 f297:=cx Tryz.func177
 f298:=cx Tryz.func178
 f299:=cx Tryz.func179
 f300:=cx Tryz.func181
 f301:=cx Tryz.func182
 f328:=cx Tryz.func210
 f329:=cx Tryz.func211
 f330:=cx Tryz.func212
 f331:=cx Tryz.func213
 f332:=cx Tryz.func214
 f343:=cx Tryz.func246
 t0:=Tryz.underlying0
 a0:=Tryz.isAgg0
 z0:=Tryz.sizeOf0
 v0:=Tryz.zeroValue0
 t3:=Tryz.underlying3
 a3:=Tryz.isAgg3
 z3:=Tryz.sizeOf3
 v3:=Tryz.zeroValue3
 t4:=Tryz.underlying4
 a4:=Tryz.isAgg4
 z4:=Tryz.sizeOf4
 v4:=Tryz.zeroValue4
 t5:=Tryz.underlying5
 a5:=Tryz.isAgg5
 z5:=Tryz.sizeOf5
 v5:=Tryz.zeroValue5
 t9:=Tryz.underlying9
 a9:=Tryz.isAgg9
 z9:=Tryz.sizeOf9
 v9:=Tryz.zeroValue9
 t28:=Tryz.underlying40
 a28:=Tryz.isAgg40
 z28:=Tryz.sizeOf40
 v28:=Tryz.zeroValue40
 t46:=Tryz.underlying142
 a46:=Tryz.isAgg142
 z46:=Tryz.sizeOf142
 v46:=Tryz.zeroValue142
 t51:=Tryz.underlying175
 a51:=Tryz.isAgg175
 z51:=Tryz.sizeOf175
 v51:=Tryz.zeroValue175
 t53:=Tryz.underlying177
 a53:=Tryz.isAgg177
 z53:=Tryz.sizeOf177
 v53:=Tryz.zeroValue177
 t131:=Tryz.underlying172
 a131:=Tryz.isAgg172
 z131:=Tryz.sizeOf172
 v131:=Tryz.zeroValue172
 t182:=Tryz.underlying166
 a182:=Tryz.isAgg166
 z182:=Tryz.sizeOf166
 v182:=Tryz.zeroValue166
 t183:=Tryz.underlying167
 a183:=Tryz.isAgg167
 z183:=Tryz.sizeOf167
 v183:=Tryz.zeroValue167
 t218:=Tryz.underlying210
 a218:=Tryz.isAgg210
 z218:=Tryz.sizeOf210
 v218:=Tryz.zeroValue210
 t222:=Tryz.underlying214
 a222:=Tryz.isAgg214
 z222:=Tryz.sizeOf214
 v222:=Tryz.zeroValue214
 t228:=Tryz.underlying242
 a228:=Tryz.isAgg242
 z228:=Tryz.sizeOf242
 v228:=Tryz.zeroValue242
 t229:=Tryz.underlying108
 a229:=Tryz.isAgg108
 z229:=Tryz.sizeOf108
 v229:=Tryz.zeroValue108 }
open Go.Sort Go.RowKit in
theorem Tryz.slices_Sort_int (blk off cap:Nat) (zs:List Int) (w:World) (hH:Holds (Value.int .i64) w blk off zs.toArray) (dA:blk < w.heap.size) (cR:zs.length < 4611686018427387904) :
  Calls Tryz.prog 105 #[.slice (some ⟨blk,off,none⟩) zs.length cap] w fun e w' =>
   e=.returned (.tuple #[])/\∃ n os,w'=grow (putRow (Value.int .i64) (Sort.ahead w n) blk off (zs.mergeSort fun x y=>decide (x<=y)).toArray) os:=Any.slices_Sort_int Tryz.Iw blk off cap zs w hH dA cR
def Tryz.V2:Go.Shelf.Ren:=⟨fun | 157=>216 | 229=>247 | 199=>248 | 261=>274 | 311=>290 | 312=>291 | n=>n,fun | 9=>9 | 31=>22 | 3=>3 | 5=>5 | 4=>4 | 119=>244 | 0=>0 | 40=>246 | 152=>259 | 21=>21 | 154=>261 | 51=>175 | 141=>263 | 196=>278 | 193=>275 | 198=>281 | 49=>279 | 194=>276 | 201=>284 | 226=>290 | 46=>142 | 227=>291 | n=>n,fun | 0=>0 | 6=>2 | n=>n⟩
def Tryz.FA:Go.Shelf.Ren:=⟨fun | 157=>216 | 229=>247 | 199=>248 | 261=>274 | 311=>290 | 312=>291 | n=>n,fun | 9=>9 | 31=>22 | 3=>3 | 5=>5 | 4=>4 | 119=>244 | 0=>0 | 40=>246 | 152=>259 | 21=>21 | 154=>261 | 51=>175 | 141=>263 | 196=>278 | 193=>275 | 198=>281 | 49=>279 | 194=>276 | 201=>284 | 226=>290 | 46=>142 | 227=>291 | n=>n,fun | 0=>0 | 6=>2 | n=>n⟩
theorem Tryz.PG:Go.Proofs.LaysM.n157 Tryz.prog Tryz.FA:={
 mixed:=by kernel_rfl
 f157:=cx Tryz.func216
 f199:=cx Tryz.func248
 f229:=cx Tryz.func247
 f261:=cx Tryz.func274
 f311:=cx Tryz.func290
 f312:=cx Tryz.func291
 t0:=Tryz.underlying0
 a0:=Tryz.isAgg0
 z0:=Tryz.sizeOf0
 v0:=Tryz.zeroValue0
 t3:=Tryz.underlying3
 a3:=Tryz.isAgg3
 z3:=Tryz.sizeOf3
 v3:=Tryz.zeroValue3
 t4:=Tryz.underlying4
 a4:=Tryz.isAgg4
 z4:=Tryz.sizeOf4
 v4:=Tryz.zeroValue4
 t5:=Tryz.underlying5
 a5:=Tryz.isAgg5
 z5:=Tryz.sizeOf5
 v5:=Tryz.zeroValue5
 t9:=Tryz.underlying9
 a9:=Tryz.isAgg9
 z9:=Tryz.sizeOf9
 v9:=Tryz.zeroValue9
 t21:=Tryz.underlying21
 a21:=Tryz.isAgg21
 z21:=Tryz.sizeOf21
 v21:=Tryz.zeroValue21
 t31:=Tryz.underlying22
 a31:=Tryz.isAgg22
 z31:=Tryz.sizeOf22
 v31:=Tryz.zeroValue22
 t40:=Tryz.underlying246
 a40:=Tryz.isAgg246
 z40:=Tryz.sizeOf246
 v40:=Tryz.zeroValue246
 t46:=Tryz.underlying142
 a46:=Tryz.isAgg142
 z46:=Tryz.sizeOf142
 v46:=Tryz.zeroValue142
 t49:=Tryz.underlying279
 a49:=Tryz.isAgg279
 z49:=Tryz.sizeOf279
 v49:=Tryz.zeroValue279
 t51:=Tryz.underlying175
 a51:=Tryz.isAgg175
 z51:=Tryz.sizeOf175
 v51:=Tryz.zeroValue175
 t119:=Tryz.underlying244
 a119:=Tryz.isAgg244
 z119:=Tryz.sizeOf244
 t141:=Tryz.underlying263
 a141:=Tryz.isAgg263
 z141:=Tryz.sizeOf263
 v141:=Tryz.zeroValue263
 t152:=Tryz.underlying259
 a152:=Tryz.isAgg259
 z152:=Tryz.sizeOf259
 v152:=Tryz.zeroValue259
 t154:=Tryz.underlying261
 a154:=Tryz.isAgg261
 z154:=Tryz.sizeOf261
 v154:=Tryz.zeroValue261
 t193:=Tryz.underlying275
 a193:=Tryz.isAgg275
 z193:=Tryz.sizeOf275
 v193:=Tryz.zeroValue275
 t194:=Tryz.underlying276
 a194:=Tryz.isAgg276
 z194:=Tryz.sizeOf276
 v194:=Tryz.zeroValue276
 t196:=Tryz.underlying278
 a196:=Tryz.isAgg278
 z196:=Tryz.sizeOf278
 v196:=Tryz.zeroValue278
 t198:=Tryz.underlying281
 a198:=Tryz.isAgg281
 z198:=Tryz.sizeOf281
 v198:=Tryz.zeroValue281
 t201:=Tryz.underlying284
 a201:=Tryz.isAgg284
 z201:=Tryz.sizeOf284
 v201:=Tryz.zeroValue284
 t226:=Tryz.underlying290
 a226:=Tryz.isAgg290
 z226:=Tryz.sizeOf290
 v226:=Tryz.zeroValue290
 t227:=Tryz.underlying291
 a227:=Tryz.isAgg291
 z227:=Tryz.sizeOf291
 v227:=Tryz.zeroValue291
 g0:=by kernel_rfl
 g6:=by kernel_rfl
 i0:=by kernel_rfl
 i3:=by kernel_rfl
 i4:=by kernel_rfl
 i5:=by kernel_rfl
 i9:=by kernel_rfl
 i21:=by kernel_rfl
 i31:=by kernel_rfl
 i40:=by kernel_rfl
 i46:=by kernel_rfl
 i49:=by kernel_rfl
 i51:=by kernel_rfl
 i141:=by kernel_rfl
 i152:=by kernel_rfl
 i154:=by kernel_rfl
 i193:=by kernel_rfl
 i194:=by kernel_rfl
 i196:=by kernel_rfl
 i198:=by kernel_rfl
 i201:=by kernel_rfl
 i226:=by kernel_rfl
 i227:=by kernel_rfl
 m0:=by kernel_rfl
 m6:=by kernel_rfl }
open Go.RowKit Go.Lib in
theorem Tryz.strings_Fields_laid (s:ByteArray) (w:World) (hs:s.size < 4294967281) (Up:∀ (j:Nat) b,s.data.toList[j]?=some b->b.toNat < 128) (zS:Lib.TabIs Tryz.prog w "strings.asciiSpace" .u8 Lib.asciiSpaceTab) :
  Calls Tryz.prog 216 #[.string s] w fun e w' =>
   e=.returned (.slice (some ⟨w.heap.size,0,none⟩) (Lib.fields s.data.toList).length (Lib.fields s.data.toList).length)/\w'=w.alloc (.cells ((Lib.fields s.data.toList).map fun l=>Value.string ⟨l.toArray⟩).toArray 9):=Any.strings_Fields_laid Tryz.PG s w hs Up zS
def Tryz.DT:Go.Shelf.Ren:=⟨fun | 20=>106 | n=>n,fun | 22=>40 | 3=>3 | 4=>4 | 0=>0 | n=>n,fun | n=>n⟩
theorem Tryz.Dq:Go.Proofs.Lays2.n20 Tryz.prog Tryz.DT:={
 mixed:=by kernel_rfl
 f20:=cx Tryz.func106
 t0:=Tryz.underlying0
 a0:=Tryz.isAgg0
 z0:=Tryz.sizeOf0
 v0:=Tryz.zeroValue0
 t3:=Tryz.underlying3
 a3:=Tryz.isAgg3
 z3:=Tryz.sizeOf3
 v3:=Tryz.zeroValue3
 t4:=Tryz.underlying4
 a4:=Tryz.isAgg4
 z4:=Tryz.sizeOf4
 v4:=Tryz.zeroValue4
 t22:=Tryz.underlying40
 a22:=Tryz.isAgg40
 z22:=Tryz.sizeOf40
 v22:=Tryz.zeroValue40
 i3:=by kernel_rfl }
open Go.RowKit Go.Lib Go.Sort in
theorem Tryz.slices_Compact_int (blk off cap:Nat) (zs:List Int) (w:World) (hH:Holds (Value.int .i64) w blk off zs.toArray) (cR:zs.length<=9223372036854775807) (Pe:zs.length<=cap) :
  Calls Tryz.prog 106 #[.slice (some ⟨blk,off,none⟩) zs.length cap] w fun e w'=>e=.returned (.slice (some ⟨blk,off,none⟩) (Lib.compact zs).length cap)/\∃ q,w'=putRow (Value.int .i64) (Sort.ahead w q) blk off (Lib.compact zs++List.replicate (zs.length - (Lib.compact zs).length) 0).toArray:=Any.slices_Compact_int Tryz.Dq blk off cap zs w hH cR Pe
open Go.RowKit Go.Lib Go.Sort in
theorem Tryz.slices_Compact_int_empty (a:Option Addr) (cap:Nat) (w:World) :
  Calls Tryz.prog 106 #[.slice a 0 cap] w fun e w'=>e=.returned (.slice a 0 cap)/\w'=w:=Any.slices_Compact_int_empty Tryz.Dq a cap w
open Go.RowKit Go.Sort in
theorem Tryz.slices_Sort_int_none (p:Option Addr) (cap:Nat) (w:World) :
  Calls Tryz.prog 105 #[.slice p 0 cap] w fun e w'=>e=.returned (.tuple #[])/\w'=w:=Any.slices_Sort_int_none Tryz.Iw p cap w
end Go.Proofs
set_option maxHeartbeats 1000000
namespace Go.Xg
open Go.RowKit Go.Xw Go.Proofs
attribute [local irreducible] GW GL GO YG GC GA aY ba
instance:CH Tryz.prog 143 5:=CH.mk' (ak)
instance:BH Tryz.prog 225:=BH.mk' (e:=227) (ak) (ak)
theorem G3 (g:Value):GF Tryz.prog 263 [.loc 0 0] [.box 227 [.loc 0 0,.v g]] (.tup []) [.box 227 [.loc 0 0,.v g]]:=by
 refine aj Tryz.func263 Tryz.ntmps263 ?_;exact fX
theorem rE (s:ai) (n:Nat) (a:Option Addr) (c:Nat) (rows:List (List GV)) (hn:rows.length=n) (hb:n+s.length<=140737488355328) :
  GC Tryz.prog 229 [.loc 0 0,.v (sv s)] [.box 227 [.loc 0 0,.v (.slice a n c)],.vech 5 1 rows (.slice a n c)] (fun g aL=>(∃ x,g=.tup [.v (ii s.length),x])/\∃ a c,aL=[.box 227 [.loc 0 0,.v (.slice a (n+s.length) c)],.vech 5 1 (rows++cr s) (.slice a (n+s.length) c)]):=by
 subst hn;have h:=G3 (.slice a rows.length c)
 cases s with
 | nil =>
  refine aj Tryz.func229 Tryz.ntmps229 ?_;refine ab [0] h ?_;refine GL.V7 1 rfl rfl rfl (by simpa using hb) ?_;refine bT ?_;refine ae ?_;refine yN ?_;exact ⟨⟨_,rfl⟩,a,c,by simp [cr]⟩
 | cons x r =>
  generalize hs:x::r=s at *
  have bJ:s.isEmpty=false:=by rw [<-hs];rfl
  clear hs;refine aj Tryz.func229 Tryz.ntmps229 ?_;refine ab [0] h ?_;refine GL.V8 1 rfl rfl rfl bd cB ah ?_;intro a2 c2;refine bT ?_;refine ae ?_;refine yN ?_;exact ⟨⟨_,rfl⟩,a2,c2,rfl⟩
theorem OJ (str:ai) (a:Option Addr) (c:Nat) (h0:str≠[]) (hb:str.length<=140737488355328) :
  GF Tryz.prog 230 [.loc 0 0] [.box 227 [.loc 0 0,.v (.slice a str.length c)],.vech 5 1 (cr str) (.slice a str.length c)] (.v (sv str)) [.box 227 [.loc 0 0,.v (.slice a str.length c)],.lost]:=by
 have hlen:(cr str).length=str.length:=by simp [cr]
 have hp:Nat.blt 0 str.length=true:=by simpa using List.length_pos_iff.2 h0
 have bJ:str.isEmpty=false:=by cases str with | nil=>exact absurd rfl h0 | cons _ _=>rfl
 refine aj Tryz.func230 Tryz.ntmps230 ?_;refine aJ (aC 0 10 (.a 10 (.q 11 .nil))) ?_;refine au ?_;refine KX ?_;refine au ?_;exact aw
end Go.Xg
namespace Go.Xg
open Go.RowKit Go.Xw Go.Proofs
open Go.Xp (bD)
theorem mi.po {P:Program} {f:FuncId} {vs:List Value} {w:World} {R:Value->World->Prop} (h:Calls P f vs.toArray w fun e w'=>∃ v,e=.returned v/\R v w'):mi P f vs w R:=h
theorem GW.builder {Q:dP} {fr:List GV} {r1 r2:Nat} {rest:Code} {t8 t56 t57 t5:Tmp} {T1 T2 T3 T4 T5:TypeId} {p1 p2 p3:String} {a1 a2 a3:Array Edge} (n:Nat)
  (h8:jE fr t8=true) (Xt:jE fr t56=true) (bJ:Nat.beq t8 t56=false) (Ze:Nat.beq t5 t8=false) (hn:cH fr t5=.v (ii (n:Nat))) (hb:n<=281474976710656)
  (h:∀ a c,GW Tryz.prog 0 rest Q (bx (bx (bx fr t8 (.loc 0 0)) t56 (.v (ii (n:Nat)))) t57 (.v (.tuple #[]))) [.box 227 [.loc 0 0,.v (.slice a 0 c)],.vech 5 1 [] (.slice a 0 c)]) :
  GW Tryz.prog 0 (.seq (.region r1 [(⟨some t8,.alloc 227,T1,p1,a1,none⟩:Oper)].toArray false) (.seq (.region r2 [(⟨some t56,.move (.tmp t5),T2,p2,a2,none⟩:Oper),⟨some t57,.call ⟨.value (.func 228),[Operand.tmp t8,.tmp t56].toArray,#[T3,T4]⟩,T5,p3,a3,none⟩].toArray false) rest)) Q fr []:=fun B K β w l hm hI hF=>by
 have Ff:t8≠t56:=by intro e;subst e;simp at bJ
 have Q9:t5≠t8:=by intro e;subst e;simp at Ze
 have i8:=mz hF h8;have i56:=mz hF Xt;refine W.seq (W.region (WL.alloc (t:=227) fun b w1 rQ=>WL.nil ?_));refine W.seq (W.region (WL.v R.mv (WL.call (f:=228) (BL:=[.pointer (some ⟨b,0,none⟩),.int .i64 n]) ?_ (R:=fun x w2=>x=.tuple #[]/\(Lib.BuilderAt 227 5 b b (.pointer (some ⟨b,0,none⟩)) [] w2/\Below b w1 w2)) ?_ fun x w2 hx=>WL.nil ?_)))
 ·have hF1:FR K (eC β 0 (.fix b)) (bx fr t8 (.loc 0 0)) (put l (some t8) (.pointer (some ⟨b,0,none⟩))) :=
   (hF.mono (cq.refl K) (fV (i:=0) (x:=.fix b) (by rw [hI.out 0 (Nat.le_refl _)];trivial))).eS t8 (.loc 0 0 b bm)
  have j56:jE (eS l t8 (.pointer (some ⟨b,0,none⟩))) t56=true:=mz hF1 (t:=t56) (by rw [Is];exact Xt)
  have e5:nth (eS l t8 (.pointer (some ⟨b,0,none⟩))) t5=.int .i64 n:=by
   rw [nU Q9];exact Rel.eD (by rw [<-hn];exact hF.nth t5)
  show [nth (eS (eS l t8 (.pointer (some ⟨b,0,none⟩))) t56 (nth (eS l t8 (.pointer (some ⟨b,0,none⟩))) t5)) t8,nth (eS (eS l t8 (.pointer (some ⟨b,0,none⟩))) t56 (nth (eS l t8 (.pointer (some ⟨b,0,none⟩))) t5)) t56]=_;rw [nU Ff,sj i8,sj j56,e5]
 ·refine mi.po (Calls.mono (Tryz.Builder_Grow_fresh b b n w1 (Nat.le_refl _) rQ.blk (by have:=rQ.size;omega) hb) ?_);rintro e w' ⟨h1,h2⟩;exact ⟨_,h1,rfl,h2⟩
 ·obtain ⟨rfl,⟨_,v,ln,fa,tV⟩,EX⟩:=hx;have fa:gC w2 b 5 1 v 0 []:=fa;obtain ⟨a,c,rfl⟩:=fa.shape;have oD:=rQ.fresh;have gI:Ext ic w w2:=⟨EX.os.trans rQ.ext.os,EX.tape.trans rQ.ext.tape,EX.output.trans rQ.ext.output,Nat.le_trans rQ.ext.size EX.size,fun k hk hs=>(EX.block k ah).trans (rQ.ext.block k hk hs)⟩;have n7:=hI.same gI
  have bN:∀ i,β i=.no:=fun i=>hI.out i (Nat.zero_le _)
  have Ui:∀ o,K b o=none:=fun o=>by
   cases hk:K b o with
   | none=>rfl
   | some g=>have:=hI.fz.lt hk;omega
  have XV:=hI.ext.size;have aao:=hI.tab.pow.lt;have mR:=hI.tab.spc.lt;have UB:cZ β (eC β ([]:List Ob).length (.fix b)):=fV (by rw [bN];trivial)
  have ET:=n7.QF (x:=.fix b) (y:=.box 227 [.loc 0 0,.v (.slice a 0 c)]) (fun b' bt=>by
   cases bt
   exact ⟨fun i hi=>(by rw [bN] at hi;cases hi),by omega,by omega,by omega⟩) (by
   refine ⟨b,[.pointer (some ⟨b,0,none⟩),.slice a 0 c],bm,ln,.cons (.loc 0 0 b bm) (.cons (.v _) .nil),Ui⟩) UB
  have A3:gC w2 0 5 1 (.slice a 0 c) 0 []:=fa.base (Nat.zero_le _)
  have MD:∀ g,(Value.slice a 0 c).ownBlock=some g->b < g:=fun g hg=>by
   have h1:=(fa.lt hg).1
   have h2:g≠b:=fun e=>tV (by rw [hg,e])
   omega
  have zc:eC β ([]:List Ob).length (.fix b) 1=.no:=by rw [bE aK];exact bN 1
  have zQ:cZ (eC β ([]:List Ob).length (.fix b)) (eC (eC β ([]:List Ob).length (.fix b)) 1 (.gr (.slice a 0 c) 0)):=fV (by rw [zc];trivial)
  have hI4:=ET.QF (x:=.gr (.slice a 0 c) 0) (y:=.vech 5 1 [] (.slice a 0 c)) (fun g hg=>by
   have:=MD g hg;refine ⟨fun i hi=>?_,by omega,by omega,by omega⟩
   rcases lU hi with h1 | h1
   ·cases h1;omega
   ·rw [bN] at h1;cases h1) (by
   refine ⟨[],bm,A3,bb.nil,(fun r hr=>by cases hr),fun g hg o=>?_⟩
   cases hk:K g o with
   | none=>rfl
   | some y=>have:=hI.fz.lt hk;have:=MD g hg;omega) zQ
  refine h a c B K _ w2 _ hm hI4 ?_;have hF2:=(hF.mono (cq.refl K) UB).mono (cq.refl K) zQ;refine ((hF2.eS t8 (.loc 0 0 b ?_)).eS t56 ?_).eS t57 (.v _)
  ·rw [bE aK];exact bm
  ·have e5:nth (eS l t8 (.pointer (some ⟨b,0,none⟩))) t5=.int .i64 n:=by
    rw [nU Q9];exact Rel.eD (by rw [<-hn];exact hF.nth t5)
   rw [show ev (put l (some t8) (.pointer (some ⟨b,0,none⟩))) (.tmp t5)=.int .i64 n from e5];exact .v _
attribute [local irreducible] GW GL GO YG GC GA aY ba
theorem tO (a b:ai):cr (a++b)=cr a++cr b:=by simp [cr]
def mW (l:List ai):Nat:=(l.map List.length).sum
theorem Dk:∀ (r:List ai) (x:ai),(bD (x::r)).length=mW (x::r)+2 * r.length
 | [],x=>by simp [bD,mW]
 | y::r,x=>by
  have:=Dk r y;simp only [bD,mW,length_append,List.map_cons,sum_cons,List.flatMap_cons,length_cons] at this |-;omega
def gj (l:List ai):ai:=l.flatMap fun y=>44::32::y
theorem Ms (a b:List ai):gj (a++b)=gj a++gj b:=by unfold gj;rw [List.flatMap_append]
theorem St (l:List ai) (k:Nat):(gj (l.take k)).length<=(gj l).length:=by
 have:gj l=gj (l.take k)++gj (l.drop k):=by rw [<-Ms,List.take_append_drop]
 rw [this,length_append];omega
theorem T9 (y:ai):gj [y]=[44,32]++y:=by simp [gj]
theorem Pw (x:ai) (r:List ai):bD (x::r)=x++gj r:=rfl
theorem Ln (l:List ai) (hb:(bD l).length<=1099511627776) (hl:l.length<=1099511627776):GF Tryz.prog 196 [strs l,.v (sv [44,32])] [] (.v (sv (bD l))) []:=by
 match l,hb,hl with
 | [],hb,hl =>
  refine aj Tryz.func196 Tryz.ntmps196 ?_;exact al
 | [x],hb,hl =>
  have hr:([x].map fun s=>[GV.v (sv s)])[0]?=some [.v (sv x)]:=rfl
  have e:bD [x]=x:=by simp [bD]
  rw [e];refine aj Tryz.func196 Tryz.ntmps196 ?_;exact al
 | x::y::r,hb,hl =>
  have rm:((x::y::r).map fun s=>[GV.v (sv s)])[0]?=some [.v (sv x)]:=rfl;have hlen:=Dk (y::r) x
  have wY:x.length<=1099511627776:=by simp only [bD,length_append] at hb;omega
  generalize hL:(x::y::r)=l at *
  have jC:2<=l.length:=by rw [<-hL];simp
  have dh:(l.map fun s=>[GV.v (sv s)]).length=l.length:=by simp
  have zc:Nat.blt 1 (l.map fun s=>[GV.v (sv s)]).length=true:=by rw [dh];simpa [Nat.blt] using jC
  have Da:(((l.map fun s=>[GV.v (sv s)]).length:Int)==0)=false:=by rw [dh];simp only [beq_eq_false_iff_ne,ne_eq];omega
  have Fe:(((l.map fun s=>[GV.v (sv s)]).length:Int)==1)=false:=by rw [dh];simp only [beq_eq_false_iff_ne,ne_eq];omega
  have hq:decide ((9223372036854775807:Int) / (((l.map fun s=>[GV.v (sv s)]).length:Int) - 1)<=2)=false:=by
   rw [dh]
   have h3:(3:Int)<=9223372036854775807 / ((l.length:Int) - 1):=by
    rw [Int.le_ediv_iff_mul_le ah];omega
   simp;omega
  refine aj Tryz.func196 Tryz.ntmps196 ?_;apply GL.q
  ·exact YG.mul (a:=2) (b:=((l.map fun s=>[GV.v (sv s)]).length:Int) - 1) rfl rfl ah
  refine b8 ?_;refine ae ?_;refine GW.range (l.map fun s=>[GV.v (sv s)]).length (fun k fr Γ=>fr=[strs l,.v (sv [44,32]),.U,.U,.U,.v (ii (0+2 * (((l.map fun s=>[GV.v (sv s)]).length:Int) - 1)+((mW (l.take k):Nat):Int))),.U,.U,.U,.U,.U,.U,.U,.U,.U,.U,.U,.U,.U,.U,.U,.U,.U,.U,.U,.U,.U,.U,.U,.U,.U,.U,.U,.U,.U,.U,.U,.U,.U,strs l,.v (ii ((l.map fun s=>[GV.v (sv s)]).length:Int)),.v (ii (k:Nat)),.U,.U,.U,.U,.U,.U,.U,.U,.U,.U,.U,.U,.U,.U,.U,.U,.U,.U,.U,.U,.U,.U,.U,.U,.U,.U,.U,.U,.U,.U,.U,.U,.U]/\Γ=[]) ?_ ah ?_ ?_ ?_
  ·refine ⟨_,_,Wk.aD (cj:=[strs l,.v (sv [44,32]),.U,.U,.U,.v (ii (0+2 * (((l.map fun s=>[GV.v (sv s)]).length:Int) - 1))),.U,.U,.U,.U,.U,.U,.U,.U,.U,.U,.U,.U,.U,.U,.U,.U,.U,.U,.U,.U,.U,.U,.U,.U,.U,.U,.U,.U,.U,.U,.U,.U,.U,strs l,.v (ii ((l.map fun s=>[GV.v (sv s)]).length:Int)),.v (ii (0:Nat)),.U,.U,.U,.U,.U,.U,.U,.U,.U,.U,.U,.U,.U,.U,.U,.U,.U,.U,.U,.U,.U,.U,.U,.U,.U,.U,.U,.U,.U,.U,.U,.U,.U]) ar,?_,rfl⟩;rw [List.take_zero,show ((mW []:Nat):Int)=0 from rfl,Int.add_zero]
  ·rintro k _ _ ⟨rfl,rfl⟩;exact dO
  ·rintro k _ _ ao ⟨rfl,rfl⟩;rw [dh] at ao
   have b6:l[k]?=some l[k]:=by simp [ao]
   have sR:(l.map fun s=>[GV.v (sv s)])[k]?=some [.v (sv l[k])]:=by rw [getElem?_map,b6];rfl
   have hs:mW (l.take (k+1))=mW (l.take k)+l[k].length:=by unfold mW;rw [take_add_one,b6,map_append,List.sum_append];simp only [Option.toList,List.map_cons,map_nil,sum_cons,List.sum_nil,Nat.add_zero]
   have hle:mW (l.take (k+1))<=mW l:=by
    have:mW l=mW (l.take (k+1))+mW (l.drop (k+1)):=by
     unfold mW;rw [<-List.sum_append,<-map_append,List.take_append_drop]
    omega
   generalize l[k]=z at *;rw [show (0+2 * (((l.map fun s=>[GV.v (sv s)]).length:Int) - 1)+((mW (l.take (k+1)):Nat):Int))=0+2 * (((l.map fun s=>[GV.v (sv s)]).length:Int) - 1)+((mW (l.take k):Nat):Int)+(z.length:Int) by rw [hs];omega]
   have hov:decide (9223372036854775807 - (0+2 * (((l.map fun s=>[GV.v (sv s)]).length:Int) - 1)+((mW (l.take k):Nat):Int)) < (z.length:Int))=false:=by
    simp only [decide_eq_false_iff_not];omega
   refine ae ?_;exact ⟨rfl,rfl,_,_,Wk.aD ar,rfl,rfl⟩
  ·rintro _ _ ⟨rfl,rfl⟩;rw [dh,take_length]
   have hN:(0+2 * ((l.length:Int) - 1)+((mW l:Nat):Int))=(((bD l).length:Nat):Int):=by
    have:(y::r).length+1=l.length:=by rw [<-hL];simp
    omega
   rw [hN];refine be ?_
   refine GW.builder (bD l).length rfl rfl rfl rfl rfl ah fun a c=>?_
   refine ae ?_;refine cv [0,1] (rE x 0 a c [] rfl ah) ?_;rintro _ _ ⟨⟨u1,rfl⟩,a1,c1,rfl⟩;refine c8 ?_;refine ae ?_
   have key:∀ k,(x++gj ((y::r).take k)).length<=1099511627776:=fun k=>by
    have h1:=St (y::r) k;rw [<-hL,Pw,length_append] at hb;rw [length_append];omega
   refine GW.range ((y::r).map fun s=>[GV.v (sv s)]).length (fun k fr Γ=>∃ acc a c,fr=[.U,.v (sv [44,32]),.U,.U,.U,.U,.U,.U,.loc 0 0,.U,.U,.U,.U,.U,.U,.U,.U,.U,.U,.U,.U,.U,.U,.U,.U,.U,.U,.U,.U,.U,.U,.U,.U,.U,.U,.U,.U,.U,.U,.U,.U,.U,.U,.U,.U,.U,.U,.U,.U,.U,.U,.U,.U,.U,.U,.U,.U,.U,.U,.U,.U,.U,.U,strs (y::r),.v (ii (((y::r).map fun s=>[GV.v (sv s)]).length:Int)),.v (ii (k:Nat)),.U,.U,.U,.U,.U,.U,.U,.U,.U]/\acc=x++gj ((y::r).take k)/\Γ=[.box 227 [.loc 0 0,.v (.slice a acc.length c)],.vech 5 1 (cr acc) (.slice a acc.length c)]) ?_ ?_ ?_ ?_ ?_
   ·rw [show 0+x.length=x.length from Nat.zero_add _];subst hL;exact ⟨_,_,Wk.aD ar,x,a1,c1,rfl,by simp [gj],rfl⟩
   ·have:((y::r).map fun s=>[GV.v (sv s)]).length+1=l.length:=by rw [<-hL];simp
    omega
   ·rintro k _ _ ⟨acc,a,c,rfl,_,rfl⟩;exact dO
   ·rintro k _ _ ao ⟨acc,a,c,rfl,la,rfl⟩
    have ao:k < (y::r).length:=by simpa using ao
    have b6:(y::r)[k]?=some (y::r)[k]:=by simp [ao]
    have sR:((y::r).map fun s=>[GV.v (sv s)])[k]?=some [.v (sv (y::r)[k])]:=by rw [getElem?_map,b6];rfl
    have bh:x++gj ((y::r).take (k+1))=(acc++[44,32])++(y::r)[k]:=by
     rw [take_add_one,b6,Ms,<-List.append_assoc,<-la,List.append_assoc]
     congr 1
     exact T9 _
    have rN:=key k;have rf:=key (k+1);rw [bh] at rf;rw [<-la] at rN;simp only [length_append,length_cons,length_nil] at rf;generalize (y::r)[k]=z at *
    have Ww:(cr acc).length=acc.length:=by simp [cr]
    refine ae ?_;refine cv [0,1] (rE [44,32] acc.length a c (cr acc) Ww (by simp only [length_cons,length_nil];omega)) ?_;rintro _ _ ⟨⟨u1,rfl⟩,a2,c2,rfl⟩;refine c8 ?_;rw [show cr acc++[[GV.v (.int .u8 ((44:UInt8).toNat:Int))],[GV.v (.int .u8 ((32:UInt8).toNat:Int))]]=cr (acc++[44,32]) by simp [cr],show acc.length+([44,32]:ai).length=(acc++[44,32]).length by simp];refine ae ?_;refine cv [0,1] (rE z (acc++[44,32]).length a2 c2 (cr (acc++[44,32])) (by simp [cr]) (by simp only [length_append,length_cons,length_nil];omega)) ?_;rintro _ _ ⟨⟨u2,rfl⟩,a3,c3,rfl⟩;refine c8 ?_
    have ez:List.length (acc++[44,32])+List.length z=List.length ((acc++[44,32])++z):=by simp only [length_append]
    rw [<-tO,ez];refine ae ?_;exact ⟨rfl,rfl,_,_,Wk.aD ar,(acc++[44,32])++z,a3,c3,rfl,bh.symm,rfl⟩
   ·rintro _ _ ⟨acc,a,c,rfl,la,rfl⟩
    have hj:bD l=acc:=by
     rw [la,<-hL,show ((y::r).map fun s=>[GV.v (sv s)]).length=(y::r).length by simp,take_length];rfl
    rw [hj] at hb hlen |-
    have bJ:acc≠[]:=by
     intro h0;rw [h0] at hlen;simp at hlen
    have Zr:=OJ acc a c bJ ah;refine ae ?_;refine ab [0,1] Zr ?_;exact al
end Go.Xg
set_option maxHeartbeats 4000000
namespace Go.Xg
open Go.RowKit Go.Xw Go.Proofs
open Go.Im
section
variable {P:Program} {m:Nat} {fr:List GV} {Γ:List Ob}
theorem Wk.keep {n j E k:Nat} {rows:List (List GV)} {x:Value} (hm:m<=n) (hnj:n<=j) (hl:zt n (Γ.take n)=true) (hlen:(Γ.take n).length=n) (bB:Γ[j]?=some (.vech E k rows x)) :
  Wk m fr Γ (TI n fr) (Γ.take n++[.vech E k rows x]):=fun B K β w l hB hI hF=>by
 have h:=hI.cut (n:=n) ah hl;obtain ⟨xs,o1,o2,o3,o4,o5⟩:=hI.ob j _ bB
 have QY:∀ b,(Bk.gr x rows.length).blk=some b->(β j).blk=some b:=fun b hb=>by rw [o1];exact hb
 have Pf:fj (below n) β n=.no:=sk (yj (Nat.le_refl n));have hold:cZ (fj (below n) β) (eC (fj (below n) β) n (.gr x rows.length)):=fV (by rw [Pf];trivial)
 have bN:∀ b,(β j).blk=some b->∀ i,(fj (below n) β i).blk≠some b:=fun b hb i hi=>by
  by_cases gV:i < n
  ·rw [iw (yk gV)] at hi;have:=hI.dis i j b hi hb;omega
  ·rw [sk (yj ah)] at hi;cases hi
 refine ⟨K,eC (fj (below n) β) n (.gr x rows.length),?_,(hF.res).mono (cq.refl K) hold⟩;refine ⟨h.ext,h.kle,h.ble.trans hold,h.loc,h.fz,fun i z hi=>?_,fun i hi=>?_,fun i i' b hi hj=>?_,fun i b hi=>?_,h.kn,⟨h.tab.le,h.tab.pow,h.tab.spc,fun i b hi=>?_⟩⟩
 ·by_cases u9:i < n
  ·rw [getElem?_append_left ah] at hi;exact (h.ob i z hi).ext (S:=ic) (Ext.refl w) (fun _ _ h=>h) (cq.refl K) hold (bE ah) (fun _ _ _ h=>h)
  ·have:i=n:=by have:=(List.getElem?_eq_some_iff.1 hi).1;rw [length_append,hlen,List.length_singleton] at this;omega
   subst this;rw [List.getElem?_append_right ah,hlen,Nat.sub_self] at hi;cases hi;refine ⟨xs,bm,o2,⟨o3.1,fun a v g h1 h2=>(o3.2 a v g h1 h2).pc ?_⟩,o4,o5⟩;obtain ⟨r,gh,dd⟩:=List.mem_flatten.1 (mem_of_getElem? h2);exact (o4 r gh).2 g dd
 ·rw [length_append,hlen,List.length_singleton] at hi;rw [bE ah];exact sk (yj ah)
 ·by_cases h1:i=n <;> by_cases h2:i'=n
  ·omega
  ·subst h1;rw [bm] at hi;rw [bE h2] at hj;exact absurd hj (bN b (QY b hi) i')
  ·subst h2;rw [bm] at hj;rw [bE h1] at hi;exact absurd hi (bN b (QY b hj) i)
  ·rw [bE h1] at hi;rw [bE h2] at hj;exact h.dis i i' b hi hj
 ·rcases lU hi with h1 | h1
  ·exact hI.own j b (QY b h1)
  ·exact h.own i b h1
 ·rcases lU hi with h1 | h1
  ·exact hI.tab.free j b (QY b h1)
  ·exact h.tab.free i b h1
end
theorem Inv.renew {B:Bs} {K:Fz} {β:Bt} {Γ:List Ob} {w w':World} {i E k:Nat} {rows rows':List (List GV)} {x:Value} {xs:List Value} (h:Inv B K β Γ w) (hi:Γ[i]?=some (.vech E k rows x)) (hl:rows'.length=rows.length)
  (ho:gC w' 0 E k x rows'.length xs) (hr:bb K β xs rows'.flatten) (eH:fy k rows') (hx:Ext (fun b=>x.ownBlock=some b) w w'):Inv B K β (oset Γ i (.vech E k rows' x)) w':=by
 obtain ⟨xs0,h1,h2,h3,h4,h5⟩:=h.ob i _ hi
 have eo:∀ b,x.ownBlock=some b->(β i).blk=some b:=fun b hb=>by rw [h1];exact hb
 rw [bc];refine ⟨h.ext.step hx (fun j hj=>(h.own i j (eo j hj)).symm),h.kle,h.ble,h.loc,h.fz.ext hx (fun b o g hg he=>by rw [h5 b he o] at hg;cases hg),fun j y hj=>?_,fun j hj=>h.out j (by simpa using hj),h.dis,h.own,h.kn,h.tab.step hx (fun j hj=>⟨i,eo j hj⟩) (cq.refl K) (fun i b2 h=>.inl ⟨i,h⟩)⟩;rw [List.getElem?_set] at hj;split at hj
 ·rename_i fq;split at hj
  ·cases hj;subst fq
   exact ⟨xs,by rw [hl];exact h1,ho,hr,eH,h5⟩
  ·cases hj
 ·rename_i fq;exact (h.ob j y hj).ext hx (fun b hb he=>fq (h.dis i j b (eo b he) hb)) (cq.refl K) (cZ.refl β) rfl (fun _ _ _ h=>h)
theorem Di (l:List Int):(aZ l).flatten=l.map fun i=>GV.v (ii i):=by
 unfold aZ
 induction l with
 | nil=>rfl
 | cons a l ih=>rw [List.map_cons,flatten_cons,ih];rfl
theorem eh (l:List Int):(aZ l).length=l.length:=by simp [aZ]
theorem It (l:List Int):fy 1 (aZ l):=fun r hr=>by
 obtain ⟨i,_,rfl⟩:=List.mem_map.1 hr;exact ⟨rfl,fun g hg=>by rw [List.mem_singleton.1 hg];rfl⟩
theorem DC {K:Fz} {β:Bt} (l:List Int):bb K β (l.map (Value.int .i64)) ((aZ l).flatten):=by
 rw [Di];refine ⟨by simp,fun i v g h1 h2=>?_⟩;rw [getElem?_map] at h1 h2
 cases hl:l[i]? with
 | none=>rw [hl] at h1;cases h1
 | some z=>rw [hl] at h1 h2;cases h1;cases h2;exact .v _
theorem w8 {K:Fz} {β:Bt} {xs:List Value} {l:List Int} (h:bb K β xs ((aZ l).flatten)):xs=l.map (Value.int .i64):=by
 rw [Di] at h;apply List.ext_getElem?;intro i;rw [getElem?_map]
 cases hl:l[i]? with
 | none =>
  have:=h.1;rw [length_map] at this;have h2:=List.getElem?_eq_none_iff.1 hl;rw [getElem?_eq_none ah];rfl
 | some z =>
  obtain ⟨v,hv,hr⟩:=h.at (i:=i) (g:=.v (ii z)) (by rw [getElem?_map,hl];rfl);rw [hv,Rel.eD hr];rfl
theorem HV {w:World} {g q:Nat} {d:Array Int} {os:Array Obj}:Ext (fun b=>b=g) w (Go.Sort.grow (Go.Sort.putRow (Value.int .i64) (Go.Sort.ahead w q) g 0 d) os):=by
 refine ⟨rfl,rfl,rfl,by simp [Go.Sort.grow,Go.Sort.putRow,Go.Sort.mapBlock,Go.Sort.ahead],fun k hk hn=>?_⟩;simp only [Go.Sort.grow,Go.Sort.putRow,Go.Sort.mapBlock,Go.Sort.ahead];rw [Array.getElem?_append_left (by simpa using hk),Array.getElem?_modify,if_neg ah]
theorem Rz {K:Fz} {β:Bt} {vs:List Value} {x:Value} (h:bb K β vs [.v x]):vs=[x]:=by
 match vs,h.1 with
 | [v],_=>rw [Rel.eD h.nL.1]
theorem Ls (zs:List Int) (E:TypeId) (a:Option Addr) (c:Nat) (hz:zs.length<=1099511627776) :
  GF Tryz.prog 105 [.v (.slice a zs.length c)] [.vech E 1 (aZ zs) (.slice a zs.length c)] (.tup []) [.vech E 1 (aZ (fC zs)) (.slice a zs.length c)]:=fun B K β w vs hm hI hF=>by
 obtain rfl:=Rz hF;obtain ⟨xs,h1,h2,h3,h4,h5⟩:=hI.ob 0 _ rfl;have nC:=w8 h3;subst nC;rw [eh] at h2
 by_cases hn:(Value.slice a zs.length c)=.slice none 0 0
 ·injection hn with e1 e2 e3
  have Fv:zs=[]:=List.eq_nil_of_length_eq_zero e2;subst Fv;subst e1;refine mi.po (Calls.mono (Tryz.slices_Sort_int_none none c w) ?_);rintro e w' ⟨he,rfl⟩;exact ⟨_,he,K,β,.tup [],_,hI,.tup [] [] rfl (fun i v g h=>by simp at h),rfl,by rw [show fC []=[] by simp [fC]]⟩
 ·obtain ⟨g,cap,hv,nA,XG,oH,wU,hzl,hH⟩:=Go.Lib.holds_of_ownsRow h2 hn
  injection hv with e1 e2 e3
  subst e1;subst e3;refine mi.po (Calls.mono (Tryz.slices_Sort_int g 0 c zs w hH XG ah) ?_);rintro e w' ⟨he,n,os,rfl⟩;have fa:=Go.Lib.ownsRow_putRow (q:=n) (k:=zs.length) (ys:=fC zs) h2 (ma zs) (Nat.le_refl _);rw [take_of_length_le (by rw [ma];exact Nat.le_refl _)] at fa;have JW:=Go.Lib.ownsRow_grow fa 0 os;refine ⟨_,he,K,β,.tup [],_,hI.renew (i:=0) rfl (rows':=aZ (fC zs)) (xs:=(fC zs).map (Value.int .i64)) (by rw [eh,eh,ma]) ?_ (DC _) (It _) ?_,.tup [] [] rfl (fun i v g h=>by simp at h),rfl,rfl⟩
  ·rw [eh,ma];exact JW
  ·exact (HV (w:=w) (g:=g) (q:=n) (d:=(fC zs).toArray) (os:=os)).mono fun b _ hb=>by rw [hb];rfl
theorem Qf {K:Fz} {β:Bt} {g n c k:Nat} {rows:List (List GV)} (h:Rel K β (.slice (some ⟨g,0,none⟩) n c) (.sl k rows)) (bJ:rows≠[]) :
  ∀ (i:Nat) r,rows[i]?=some r->r.length=k/\∀ (j:Nat) gg,r[j]?=some gg->K g (0+i * k+j)=some gg:=by
 generalize hv:Value.slice (some ⟨g,0,none⟩) n c=v at h
 cases h with
 | sl0 a c k=>exact absurd rfl bJ
 | sl b o c k rows h hc =>
  injection hv with e1 e2 e3
  injection e1 with e1
  injection e1 with e1 e4
  subst e1;subst e4;exact h
theorem Le (zs:List Int) (E:TypeId) (a:Option Addr) (c:Nat) (hz:zs.length<=1099511627776) (u6:(Go.Lib.compact zs).length<=zs.length) :
  GC Tryz.prog 106 [.v (.slice a zs.length c)] [.vech E 1 (aZ zs) (.slice a zs.length c)] fun g Δ=>g=ints (Go.Lib.compact zs)/\∃ fz S,Δ=[.vec E 1 fz S]:=fun B K β w vs hm hI hF=>by
 obtain rfl:=Rz hF;obtain ⟨xs,h1,h2,h3,h4,h5⟩:=hI.ob 0 _ rfl;have nC:=w8 h3;subst nC;rw [eh] at h2
 by_cases Fv:zs=[]
 ·subst Fv;refine mi.po (Calls.mono (Tryz.slices_Compact_int_empty a c w) ?_);rintro e w' ⟨he,rfl⟩;exact ⟨_,he,K,β,ints [],_,hI.yd (i:=0) rfl,.sl0 a c 1,rfl,_,_,rfl⟩
 ·have hn:(Value.slice a zs.length c)≠.slice none 0 0:=fun hn=>by
   injection hn with e1 e2 e3
   exact Fv (List.eq_nil_of_length_eq_zero e2)
  obtain ⟨g,cap,hv,nA,XG,oH,wU,hzl,hH⟩:=Go.Lib.holds_of_ownsRow h2 hn
  injection hv with e1 e2 e3
  subst e1;subst e3;refine mi.po (Calls.mono (Tryz.slices_Compact_int g 0 c zs w hH ah oH) ?_);rintro e w' ⟨he,q,rfl⟩;generalize hcz:Go.Lib.compact zs=cz at *;generalize Rj:cz++List.replicate (zs.length - cz.length) (0:Int)=ys at *
  have Fu:ys.length=zs.length:=by rw [<-Rj,length_append,List.length_replicate];omega
  have fa:=Go.Lib.ownsRow_putRow (q:=q) (k:=zs.length) (ys:=ys) h2 Fu (Nat.le_refl _);rw [take_of_length_le ah] at fa;have n7:=hI.renew (i:=0) rfl (rows':=aZ ys) (xs:=ys.map (Value.int .i64)) (w':=Go.Sort.putRow (Value.int .i64) (Go.Sort.ahead w q) g 0 ys.toArray) (by rw [eh,eh,Fu]) (by rw [eh,Fu];exact fa) (DC _) (It _)
   (by
    have:=(HV (w:=w) (g:=g) (q:=q) (d:=ys.toArray) (os:=#[]));rw [Go.Sort.grow_empty] at this
    exact this.mono fun b _ hb=>by rw [hb];rfl)
  obtain ⟨K',hK,hr,ET⟩:=n7.pZ (i:=0) rfl;refine ⟨_,he,K',β,ints cz,_,ET,?_,rfl,_,_,rfl⟩
  have jC:zs.length=(aZ ys).length:=by rw [eh,Fu]
  rw [jC] at hr;have EY:=Qf hr (fun e=>Fv (List.eq_nil_of_length_eq_zero (by rw [jC,e];rfl)))
  have Us:cz.length=(cz.map fun i=>[GV.v (ii i)]).length:=by simp
  rw [Us];refine .sl g 0 c 1 _ (fun i r h=>?_) (by rw [<-Us];omega);refine EY i r ?_;have hi:=(List.getElem?_eq_some_iff.1 h).1;rw [length_map] at hi;rw [<-Rj];unfold aZ;rw [map_append,getElem?_append_left (by rw [length_map];exact hi)];exact h
end Go.Xg
namespace Go.Im
open Go.Xp Go.Sp
end Go.Im
namespace Go.Xg
open Go.RowKit Go.Xw Go.Proofs
open Go.Xp (Nd T Ar aR aB bR)
open Go.Sp (Src)
open Go.Im
attribute [local irreducible] GW GL GO YG GC GA aY ba
end Go.Xg
set_option maxHeartbeats 1000000
namespace Go.Xg
open Go.RowKit Go.Xw Go.Proofs
open Go.Xp (Tok Nd T bo one levels Ar)
open Go.Sp
attribute [local irreducible] GW GL GO YG GC GA aY ba
theorem Wg (p:Src) (hp:p.nodes.length<=1000000000000) (hk:∀ n∈p.nodes,n.kids.length<=1000000000000):∀ (f a d:Nat) (e:Int),d<=801->oh p.nodes f a d=some e->GF Tryz.prog 188 [.agg (ay p),.v (ii (a:Nat)),.v (ii (d:Nat))] [] (.v (ii e)) []:=by
 intro f
 induction f using Nat.strongRecOn with
 | _ f ih =>
 intro a d e hd h
 cases f with
 | zero=>simp [oh] at h
 | succ f =>
 rw [oh] at h;refine df Tryz.func188 Tryz.ntmps188 ?_
 by_cases h1:p.nodes.length<=a
 ·rw [if_pos (.inl h1)] at h;cases h
  have cI:decide (((p.nodes.map az).length:Int)<=(a:Int))=true:=by simpa using h1
  exact aw
 have cI:decide (((p.nodes.map az).length:Int)<=(a:Int))=false:=by simpa using h1
 by_cases h2:d > 800
 ·rw [if_pos (.inr h2)] at h;cases h
  have qh:decide ((800:Int) < (d:Int))=true:=by simpa using by omega
  exact aw
 have qh:decide ((800:Int) < (d:Int))=false:=by simpa using by omega
 rw [if_neg ah] at h
 cases hn:p.nodes[a]? with
 | none=>rw [hn] at h;cases h
 | some n =>
 rw [hn] at h;simp only at h;have hr:=jZ hn;have eX:=hk n (mem_of_getElem? hn);refine ae ?_
 refine GW.range (n.kids.map fun i=>[GV.v (ii i)]).length (fun k fr Γ=>∃ nx g,fr=[.U,.v (ii (a:Nat)),.v (ii (d:Nat)),.loc 0 0,.U,.U,.U,.v (ii nx),.U,.U,.U,.U,.U,.U,.U,.U,.U,.U,.U,.U,.U,.U,.U,.U,.U,.U,ints n.kids,.v (ii ((n.kids.map fun i=>[GV.v (ii i)]).length:Int)),.v (ii (k:Nat)),.U,.U,.U,.U,.U,.U,.U,.U,.U,.U,.U,.U,.U,.U,.U] /\
   Γ=[.box 34 (ay p)]/\0<=nx/\g<=f/\nr p.nodes g (n.kids.drop k) nx d=some e) ?_ (by simp;omega) ?_ ?_ ?_
 ·exact ⟨_,_,Wk.aD ar,_,f,rfl,rfl,by omega,Nat.le_refl _,h⟩
 ·rintro k _ _ ⟨_,_,rfl,rfl,_⟩;exact dO
 ·rintro k _ _ ao ⟨nx,g,rfl,rfl,mx,hg,h⟩
  have ao:k < n.kids.length:=by simpa using ao
  have hx:n.kids[k]?=some n.kids[k]:=by simp [ao]
  rw [drop_eq_getElem_cons ao] at h;generalize n.kids[k]=x at *;have tW:=nV hx
  cases g with
  | zero=>simp [nr] at h
  | succ g =>
  rw [nr] at h
  by_cases hxn:x=nx
  ·subst hxn;rw [if_pos rfl] at h
   have hb:(x != x)=false:=by simp
   cases b7:oh p.nodes g x.toNat (d+1) with
   | none=>rw [b7] at h;cases h
   | some y =>
   rw [b7] at h;simp only at h;have yA:=ih g ah x.toNat (d+1) y ah b7;rw [Int.toNat_of_nonneg mx] at yA
   by_cases hy:y < 0
   ·rw [if_pos hy] at h;cases h
    have U3:decide (y < (0:Int))=true:=by simpa using hy
    refine ae ?_;refine ab [] yA ?_;exact al
   ·rw [if_neg hy] at h
    have U3:decide (y < (0:Int))=false:=by simpa using hy
    refine ae ?_;refine ab [] yA ?_;exact ⟨rfl,rfl,_,_,Wk.aD ar,_,g,rfl,rfl,by omega,by omega,h⟩
  ·rw [if_neg hxn] at h;cases h
   have hb:(x != nx)=true:=by simpa using hxn
   exact aw
 ·rintro _ _ ⟨nx,g,rfl,rfl,mx,hg,h⟩;rw [length_map,List.drop_length] at h
  have la:nx=e:=by cases g <;> (rw [nr] at h;cases h;rfl)
  subst la;exact aw
theorem W0 (a n:Int) (s:ai) (ks:List Int) (l:List T) (hs:s.length<=1099511627776) (hl:l.length<=1099511627776) (ha:decide (a < 0)=false):GF Tryz.prog 217 [.agg (cT (.mk ⟨1,a,n,s,ks⟩ l))] [] (.v (.bool (bO (.mk ⟨1,a,n,s,ks⟩ l)))) []:=by
 have how:bO (.mk ⟨1,a,n,s,ks⟩ l)=(decide ((0:Int)<=n)&&(decide (n<=2147483647)&&((s==[])&&((l.length:Int)==0)))):=by unfold bO own;rw [if_neg (by show ¬ (decide (a < 0)=true);rw [ha];decide)];rfl
 rw [how];refine df Tryz.func217 Tryz.ntmps217 ?_
 cases h0:decide ((0:Int)<=n) with
 | false =>
  exact aw
 | true =>
  cases h1:decide (n<=2147483647) with
  | false =>
   exact aw
  | true =>
   cases h2:(s==[]) with
   | false =>
    exact aw
   | true =>
    refine ae ?_;refine bU ?_;exact ⟨by first | rfl | (rw [aU];rfl),rfl⟩
theorem W1 (a:Int) (s:ai) (ks:List Int) (l:List T) (hs:s.length<=1099511627776) (hl:l.length<=1099511627776) (ha:decide (a < 0)=false):GF Tryz.prog 217 [.agg (cT (.mk ⟨2,a,0,s,ks⟩ l))] [] (.v (.bool (bO (.mk ⟨2,a,0,s,ks⟩ l)))) []:=by
 have how:bO (.mk ⟨2,a,0,s,ks⟩ l)=(bs s&&((l.length:Int)==0)):=by unfold bO own;rw [if_neg (by show ¬ (decide (a < 0)=true);rw [ha];decide)];rfl
 rw [how];refine df Tryz.func217 Tryz.ntmps217 ?_
 cases h0:bs s with
 | false =>
  refine ae ?_;have hc:=ea s hs;rw [h0] at hc;refine ab [] hc ?_;exact al
 | true =>
  refine ae ?_;have hc:=ea s hs;rw [h0] at hc;refine ab [] hc ?_;refine bU ?_;exact ⟨by first | rfl | (rw [aU];rfl),rfl⟩
theorem W2 (a:Int) (s:ai) (ks:List Int) (l:List T) (hs:s.length<=1099511627776) (hl:l.length<=1099511627776) (ha:decide (a < 0)=false):GF Tryz.prog 217 [.agg (cT (.mk ⟨3,a,0,s,ks⟩ l))] [] (.v (.bool (bO (.mk ⟨3,a,0,s,ks⟩ l)))) []:=by
 have how:bO (.mk ⟨3,a,0,s,ks⟩ l)=(bs s&&(((l.length:Int)==1)&&bp 1 0 l)):=by unfold bO own;rw [if_neg (by show ¬ (decide (a < 0)=true);rw [ha];decide)];rfl
 rw [how];refine df Tryz.func217 Tryz.ntmps217 ?_
 cases h0:bs s with
 | false =>
  refine ae ?_;have hc:=ea s hs;rw [h0] at hc;refine ab [] hc ?_;exact al
 | true =>
  cases h1:((l.length:Int)==1) with
  | false =>
   have cI:((((aS l).length:Int)==1))=false:=by rw [<-aU l] at h1;exact h1
   refine ae ?_;have hc:=ea s hs;rw [h0] at hc;refine ab [] hc ?_;exact al
  | true =>
   have cI:((((aS l).length:Int)==1))=true:=by rw [<-aU l] at h1;exact h1
   refine ae ?_;have hc:=ea s hs;rw [h0] at hc;refine ab [] hc ?_;have hc:=eY (.mk ⟨3,a,0,s,ks⟩ l) 1 hl;refine ab [] hc ?_;refine bU ?_;exact ⟨by first | rfl | (rw [aU];rfl),rfl⟩
theorem W3 (a:Int) (s:ai) (ks:List Int) (l:List T) (hs:s.length<=1099511627776) (hl:l.length<=1099511627776) (ha:decide (a < 0)=false):GF Tryz.prog 217 [.agg (cT (.mk ⟨4,a,0,s,ks⟩ l))] [] (.v (.bool (bO (.mk ⟨4,a,0,s,ks⟩ l)))) []:=by
 have how:bO (.mk ⟨4,a,0,s,ks⟩ l)=(bs s&&bp l.length 0 l):=by unfold bO own;rw [if_neg (by show ¬ (decide (a < 0)=true);rw [ha];decide)];rfl
 rw [how];refine df Tryz.func217 Tryz.ntmps217 ?_
 cases h0:bs s with
 | false =>
  refine ae ?_;have hc:=ea s hs;rw [h0] at hc;refine ab [] hc ?_;exact al
 | true =>
  refine ae ?_;have hc:=ea s hs;rw [h0] at hc;refine ab [] hc ?_;have hc:=eY (.mk ⟨4,a,0,s,ks⟩ l) (aS l).length hl;refine ab [] hc ?_;refine bU ?_;exact ⟨by first | rfl | (rw [aU];rfl),rfl⟩
theorem W5 (a:Int) (s:ai) (ks:List Int) (l:List T) (hs:s.length<=1099511627776) (hl:l.length<=1099511627776) (ha:decide (a < 0)=false):GF Tryz.prog 217 [.agg (cT (.mk ⟨6,a,0,s,ks⟩ l))] [] (.v (.bool (bO (.mk ⟨6,a,0,s,ks⟩ l)))) []:=by
 have how:bO (.mk ⟨6,a,0,s,ks⟩ l)=(eA s&&(((l.length:Int)==2)&&bp 2 0 l)):=by unfold bO own;rw [if_neg (by show ¬ (decide (a < 0)=true);rw [ha];decide)];rfl
 rw [how];refine df Tryz.func217 Tryz.ntmps217 ?_
 cases h0:eA s with
 | false =>
  refine ae ?_;have hc:=td s;rw [h0] at hc;refine ab [] hc ?_;exact al
 | true =>
  cases h1:((l.length:Int)==2) with
  | false =>
   have cI:((((aS l).length:Int)==2))=false:=by rw [<-aU l] at h1;exact h1
   refine ae ?_;have hc:=td s;rw [h0] at hc;refine ab [] hc ?_;exact al
  | true =>
   have cI:((((aS l).length:Int)==2))=true:=by rw [<-aU l] at h1;exact h1
   refine ae ?_;have hc:=td s;rw [h0] at hc;refine ab [] hc ?_;have hc:=eY (.mk ⟨6,a,0,s,ks⟩ l) 2 hl;refine ab [] hc ?_;refine bU ?_;exact ⟨by first | rfl | (rw [aU];rfl),rfl⟩
theorem W6 (a:Int) (s:ai) (ks:List Int) (l:List T) (hs:s.length<=1099511627776) (hl:l.length<=1099511627776) (ha:decide (a < 0)=false):GF Tryz.prog 217 [.agg (cT (.mk ⟨7,a,0,s,ks⟩ l))] [] (.v (.bool (bO (.mk ⟨7,a,0,s,ks⟩ l)))) []:=by
 have how:bO (.mk ⟨7,a,0,s,ks⟩ l)=(bs s&&(((l.length:Int)==1)&&bp 1 0 l)):=by unfold bO own;rw [if_neg (by show ¬ (decide (a < 0)=true);rw [ha];decide)];rfl
 rw [how];refine df Tryz.func217 Tryz.ntmps217 ?_
 cases h0:bs s with
 | false =>
  refine ae ?_;have hc:=ea s hs;rw [h0] at hc;refine ab [] hc ?_;exact al
 | true =>
  cases h1:((l.length:Int)==1) with
  | false =>
   have cI:((((aS l).length:Int)==1))=false:=by rw [<-aU l] at h1;exact h1
   refine ae ?_;have hc:=ea s hs;rw [h0] at hc;refine ab [] hc ?_;exact al
  | true =>
   have cI:((((aS l).length:Int)==1))=true:=by rw [<-aU l] at h1;exact h1
   refine ae ?_;have hc:=ea s hs;rw [h0] at hc;refine ab [] hc ?_;have hc:=eY (.mk ⟨7,a,0,s,ks⟩ l) 1 hl;refine ab [] hc ?_;refine bU ?_;exact ⟨by first | rfl | (rw [aU];rfl),rfl⟩
theorem W7 (a:Int) (s:ai) (ks:List Int) (l:List T) (hs:s.length<=1099511627776) (hl:l.length<=1099511627776) (ha:decide (a < 0)=false):GF Tryz.prog 217 [.agg (cT (.mk ⟨8,a,0,s,ks⟩ l))] [] (.v (.bool (bO (.mk ⟨8,a,0,s,ks⟩ l)))) []:=by
 have how:bO (.mk ⟨8,a,0,s,ks⟩ l)=(bs s&&(((l.length:Int)==2)&&bp 2 0 l)):=by unfold bO own;rw [if_neg (by show ¬ (decide (a < 0)=true);rw [ha];decide)];rfl
 rw [how];refine df Tryz.func217 Tryz.ntmps217 ?_
 cases h0:bs s with
 | false =>
  refine ae ?_;have hc:=ea s hs;rw [h0] at hc;refine ab [] hc ?_;exact al
 | true =>
  cases h1:((l.length:Int)==2) with
  | false =>
   have cI:((((aS l).length:Int)==2))=false:=by rw [<-aU l] at h1;exact h1
   refine ae ?_;have hc:=ea s hs;rw [h0] at hc;refine ab [] hc ?_;exact al
  | true =>
   have cI:((((aS l).length:Int)==2))=true:=by rw [<-aU l] at h1;exact h1
   refine ae ?_;have hc:=ea s hs;rw [h0] at hc;refine ab [] hc ?_;have hc:=eY (.mk ⟨8,a,0,s,ks⟩ l) 2 hl;refine ab [] hc ?_;refine bU ?_;exact ⟨by first | rfl | (rw [aU];rfl),rfl⟩
theorem Vr (a:Int) (s:ai) (ks:List Int) (l:List T) (hs:s.length<=1099511627776) (hl:l.length<=1099511627776) (ha:decide (a < 0)=false):GF Tryz.prog 217 [.agg (cT (.mk ⟨10,a,0,s,ks⟩ l))] [] (.v (.bool (bO (.mk ⟨10,a,0,s,ks⟩ l)))) []:=by
 have how:bO (.mk ⟨10,a,0,s,ks⟩ l)=((s==[])&&(((l.length:Int)==2)&&bp 1 0 l)):=by unfold bO own;rw [if_neg (by show ¬ (decide (a < 0)=true);rw [ha];decide)];rfl
 rw [how];refine df Tryz.func217 Tryz.ntmps217 ?_
 cases h0:(s==[]) with
 | false =>
  exact aw
 | true =>
  cases h1:((l.length:Int)==2) with
  | false =>
   have cI:((((aS l).length:Int)==2))=false:=by rw [<-aU l] at h1;exact h1
   exact aw
  | true =>
   have cI:((((aS l).length:Int)==2))=true:=by rw [<-aU l] at h1;exact h1
   refine ae ?_;have hc:=eY (.mk ⟨10,a,0,s,ks⟩ l) 1 hl;refine ab [] hc ?_;refine bU ?_;exact ⟨by first | rfl | (rw [aU];rfl),rfl⟩
theorem Vs (a:Int) (s:ai) (ks:List Int) (l:List T) (hs:s.length<=1099511627776) (hl:l.length<=1099511627776) (ha:decide (a < 0)=false):GF Tryz.prog 217 [.agg (cT (.mk ⟨11,a,0,s,ks⟩ l))] [] (.v (.bool (bO (.mk ⟨11,a,0,s,ks⟩ l)))) []:=by
 have how:bO (.mk ⟨11,a,0,s,ks⟩ l)=((s==[])&&(((l.length:Int)==1)&&bp 1 0 l)):=by unfold bO own;rw [if_neg (by show ¬ (decide (a < 0)=true);rw [ha];decide)];rfl
 rw [how];refine df Tryz.func217 Tryz.ntmps217 ?_
 cases h0:(s==[]) with
 | false =>
  exact aw
 | true =>
  cases h1:((l.length:Int)==1) with
  | false =>
   have cI:((((aS l).length:Int)==1))=false:=by rw [<-aU l] at h1;exact h1
   exact aw
  | true =>
   have cI:((((aS l).length:Int)==1))=true:=by rw [<-aU l] at h1;exact h1
   refine ae ?_;have hc:=eY (.mk ⟨11,a,0,s,ks⟩ l) 1 hl;refine ab [] hc ?_;refine bU ?_;exact ⟨by first | rfl | (rw [aU];rfl),rfl⟩
theorem Vt (a:Int) (s:ai) (ks:List Int) (l:List T) (hs:s.length<=1099511627776) (hl:l.length<=1099511627776) (ha:decide (a < 0)=false):GF Tryz.prog 217 [.agg (cT (.mk ⟨12,a,0,s,ks⟩ l))] [] (.v (.bool (bO (.mk ⟨12,a,0,s,ks⟩ l)))) []:=by
 have how:bO (.mk ⟨12,a,0,s,ks⟩ l)=((s==[])&&(((l.length:Int)==1)&&bp 1 0 l)):=by unfold bO own;rw [if_neg (by show ¬ (decide (a < 0)=true);rw [ha];decide)];rfl
 rw [how];refine df Tryz.func217 Tryz.ntmps217 ?_
 cases h0:(s==[]) with
 | false =>
  exact aw
 | true =>
  cases h1:((l.length:Int)==1) with
  | false =>
   have cI:((((aS l).length:Int)==1))=false:=by rw [<-aU l] at h1;exact h1
   exact aw
  | true =>
   have cI:((((aS l).length:Int)==1))=true:=by rw [<-aU l] at h1;exact h1
   refine ae ?_;have hc:=eY (.mk ⟨12,a,0,s,ks⟩ l) 1 hl;refine ab [] hc ?_;refine bU ?_;exact ⟨by first | rfl | (rw [aU];rfl),rfl⟩
theorem Vu (a:Int) (s:ai) (ks:List Int) (l:List T) (hs:s.length<=1099511627776) (hl:l.length<=1099511627776) (ha:decide (a < 0)=false):GF Tryz.prog 217 [.agg (cT (.mk ⟨13,a,0,s,ks⟩ l))] [] (.v (.bool (bO (.mk ⟨13,a,0,s,ks⟩ l)))) []:=by
 have how:bO (.mk ⟨13,a,0,s,ks⟩ l)=(bs s&&(((l.length:Int)==1)&&bp 1 0 l)):=by unfold bO own;rw [if_neg (by show ¬ (decide (a < 0)=true);rw [ha];decide)];rfl
 rw [how];refine df Tryz.func217 Tryz.ntmps217 ?_
 cases h0:bs s with
 | false =>
  refine ae ?_;have hc:=ea s hs;rw [h0] at hc;refine ab [] hc ?_;exact al
 | true =>
  cases h1:((l.length:Int)==1) with
  | false =>
   have cI:((((aS l).length:Int)==1))=false:=by rw [<-aU l] at h1;exact h1
   refine ae ?_;have hc:=ea s hs;rw [h0] at hc;refine ab [] hc ?_;exact al
  | true =>
   have cI:((((aS l).length:Int)==1))=true:=by rw [<-aU l] at h1;exact h1
   refine ae ?_;have hc:=ea s hs;rw [h0] at hc;refine ab [] hc ?_;have hc:=eY (.mk ⟨13,a,0,s,ks⟩ l) 1 hl;refine ab [] hc ?_;refine bU ?_;exact ⟨by first | rfl | (rw [aU];rfl),rfl⟩
theorem W4 (a:Int) (s:ai) (ks:List Int) (l:List T) (hs:s.length<=1099511627776) (hl:l.length<=1099511627776) (ha:decide (a < 0)=false):GF Tryz.prog 217 [.agg (cT (.mk ⟨5,a,0,s,ks⟩ l))] [] (.v (.bool (bO (.mk ⟨5,a,0,s,ks⟩ l)))) []:=by
 have how:bO (.mk ⟨5,a,0,s,ks⟩ l)=((s==[45] || s==[33] || s==[126])&&(((l.length:Int)==1)&&bp 1 0 l)):=by unfold bO own;rw [if_neg (by show ¬ (decide (a < 0)=true);rw [ha];decide)];rfl
 rw [how];refine df Tryz.func217 Tryz.ntmps217 ?_
 cases h1:(s==[45]) with
 | true =>
  cases h4:((l.length:Int)==1) with
  | false =>
   have Mw:(((aS l).length:Int)==1)=false:=by rw [<-aU l] at h4;exact h4
   exact aw
  | true =>
   have Mw:(((aS l).length:Int)==1)=true:=by rw [<-aU l] at h4;exact h4
   refine ae ?_;have hc:=eY (.mk ⟨5,a,0,s,ks⟩ l) 1 hl;refine ab [] hc ?_;exact al
 | false =>
  cases h2:(s==[33]) with
  | true =>
   cases h4:((l.length:Int)==1) with
   | false =>
    have Mw:(((aS l).length:Int)==1)=false:=by rw [<-aU l] at h4;exact h4
    exact aw
   | true =>
    have Mw:(((aS l).length:Int)==1)=true:=by rw [<-aU l] at h4;exact h4
    refine ae ?_;have hc:=eY (.mk ⟨5,a,0,s,ks⟩ l) 1 hl;refine ab [] hc ?_;exact al
  | false =>
   cases h3:(s==[126]) with
   | false =>
    exact aw
   | true =>
    cases h4:((l.length:Int)==1) with
    | false =>
     have Mw:(((aS l).length:Int)==1)=false:=by rw [<-aU l] at h4;exact h4
     exact aw
    | true =>
     have Mw:(((aS l).length:Int)==1)=true:=by rw [<-aU l] at h4;exact h4
     refine ae ?_;have hc:=eY (.mk ⟨5,a,0,s,ks⟩ l) 1 hl;refine ab [] hc ?_;exact al
theorem W8 (a:Int) (s:ai) (ks:List Int) (l:List T) (hs:s.length<=1099511627776) (hl:l.length<=1099511627776) (ha:decide (a < 0)=false):GF Tryz.prog 217 [.agg (cT (.mk ⟨9,a,0,s,ks⟩ l))] [] (.v (.bool (bO (.mk ⟨9,a,0,s,ks⟩ l)))) []:=by
 have how:bO (.mk ⟨9,a,0,s,ks⟩ l)=((s==[])&&((((l.length:Int)==2) || ((l.length:Int)==3))&&bp 1 0 l)):=by unfold bO own;rw [if_neg (by show ¬ (decide (a < 0)=true);rw [ha];decide)];rfl
 rw [how];refine df Tryz.func217 Tryz.ntmps217 ?_
 cases h0:(s==[]) with
 | false =>
  exact aw
 | true =>
  cases h1:((l.length:Int)==2) with
  | true =>
   have cI:(((aS l).length:Int)==2)=true:=by rw [<-aU l] at h1;exact h1
   refine ae ?_;have hc:=eY (.mk ⟨9,a,0,s,ks⟩ l) 1 hl;refine ab [] hc ?_;exact al
  | false =>
   have cI:(((aS l).length:Int)==2)=false:=by rw [<-aU l] at h1;exact h1
   cases h2:((l.length:Int)==3) with
   | true =>
    have qh:(((aS l).length:Int)==3)=true:=by rw [<-aU l] at h2;exact h2
    refine ae ?_;have hc:=eY (.mk ⟨9,a,0,s,ks⟩ l) 1 hl;refine ab [] hc ?_;exact al
   | false =>
    have qh:(((aS l).length:Int)==3)=false:=by rw [<-aU l] at h2;exact h2
    exact aw
theorem Vv (a:Int) (s:ai) (ks:List Int) (l:List T) (hs:s.length<=1099511627776) (hl:l.length<=1099511627776) (ha:decide (a < 0)=false):GF Tryz.prog 217 [.agg (cT (.mk ⟨14,a,0,s,ks⟩ l))] [] (.v (.bool (bO (.mk ⟨14,a,0,s,ks⟩ l)))) []:=by
 have how:bO (.mk ⟨14,a,0,s,ks⟩ l)=((l.all fun x=>gi x.n.kind)&&(s==[])):=by unfold bO own;rw [if_neg (by show ¬ (decide (a < 0)=true);rw [ha];decide)];rfl
 rw [how];refine aj Tryz.func217 Tryz.ntmps217 ?_;refine GW.range (aS l).length (fun k fr Γ=>∃ n,fr=[.U,.loc 0 0,.U,.loc 1 0,.U,.U,.U,.U,.U,.U,.U,.U,.U,.U,.U,.U,.U,.U,.U,.U,.U,.U,.U,.U,.U,.U,.U,.U,.U,.U,.U,.U,.U,.U,.U,.U,.U,.U,.U,.U,.U,.U,.U,.U,.U,.U,.U,.U,.U,.U,.U,.U,.U,.U,.U,.U,.U,.U,.U,.U,.U,.U,.U,.U,.U,.U,.U,.U,.U,.U,.U,.U,.U,.U,.U,.U,.U,.U,.U,.U,.U,.U,.U,.U,.U,.U,.U,.U,.U,.U,.U,.U,.U,.U,.U,.U,.U,.U,.U,.U,.U,.U,.U,.U,.U,.U,.U,.U,.U,.U,.U,.U,.U,.U,.U,.U,.U,.U,.U,.U,.U,.U,.U,.U,.U,.U,.U,.U,.U,.U,.U,.U,.U,.U,.U,.U,.U,.U,.U,.U,.U,.U,.U,.U,.U,.U,.U,.U,.U,.U,.U,.U,.U,.U,.U,.U,.U,.U,.U,.U,.U,.U,.U,.U,.U,.U,.U,.U,.U,.U,.U,.U,.U,.U,.U,.U,.sl 6 (aS l),.v (ii ((aS l).length:Int)),.v (ii (k:Nat)),.U,.U,.U,.U,.U,.U,.U,.U,.U,.U,.U,.U]/\Γ=[.box 94 (cT (.mk ⟨14,a,0,s,ks⟩ l)),.box 91 n]/\n=az ⟨14,a,0,s,ks⟩/\((l.take k).all fun x=>gi x.n.kind)=true) ?_ (by rw [aU];exact hl) ?_ ?_ ?_
 ·exact ⟨_,_,Wk.aD ar,_,rfl,rfl,rfl,rfl⟩
 ·rintro k _ _ ⟨_,rfl,rfl,_⟩;exact dO
 ·rintro k _ _ hk ⟨_,rfl,rfl,rfl,hf⟩
  have hk:k < l.length:=by rw [aU] at hk;exact hk
  have hx:l[k]?=some l[k]:=by simp [hk]
  have hr:=cS hx;generalize l[k]=x at *;have he:=Ha x.n.kind
  cases hb:gi x.n.kind with
  | true =>
   rw [hb] at he;refine ae ?_;refine ab [] he ?_;exact ⟨rfl,rfl,_,_,(Wk.cut (n:=2) (Nat.le_of_ble_eq_true rfl) rfl).trans (Wk.aD ar),_,rfl,rfl,rfl,by rw [take_add_one,hx,all_append,hf];simp only [Option.toList,all_cons,all_nil,hb];rfl⟩
  | false =>
   rw [hb] at he;refine ae ?_;refine ab [] he ?_;refine bU ?_
   have ha:(l.all fun x=>gi x.n.kind)=false:=by
    rw [all_eq_false];exact ⟨x,mem_of_getElem? hx,by simp [hb]⟩
   rw [ha];exact ⟨rfl,rfl⟩
 ·rintro _ _ ⟨_,rfl,rfl,rfl,hf⟩
  have hf:(l.all fun x=>gi x.n.kind)=true:=by
   rw [take_of_length_le (by rw [aU];omega)] at hf;exact hf
  rw [hf];exact aw
theorem Xc (k a n:Int) (s:ai) (ks:List Int) (l:List T) (hk:k=1\/k=2\/k=3\/k=4\/k=5\/k=6\/k=7\/k=8\/k=9\/k=10\/k=11\/k=12\/k=13\/k=14\/True) (hx:¬ (k=1\/k=2\/k=3\/k=4\/k=5\/k=6\/k=7\/k=8\/k=9\/k=10\/k=11\/k=12\/k=13\/k=14)) (ha:decide (a < 0)=false) (hn:(n != 0)=false):GF Tryz.prog 217 [.agg (cT (.mk ⟨k,a,n,s,ks⟩ l))] [] (.v (.bool (bO (.mk ⟨k,a,n,s,ks⟩ l)))) []:=by
 simp only [not_or] at hx;obtain ⟨h1,h2,h3,h4,h5,h6,h7,h8,h9,lj,oB,n5,eK,AN⟩:=hx
 have h1:(k==1)=false:=by simpa using h1
 have h1x:(k != 1)=true:=by simp only [bne,h1];rfl
 have h2:(k==2)=false:=by simpa using h2
 have h3:(k==3)=false:=by simpa using h3
 have h4:(k==4)=false:=by simpa using h4
 have h5:(k==5)=false:=by simpa using h5
 have h6:(k==6)=false:=by simpa using h6
 have h7:(k==7)=false:=by simpa using h7
 have h8:(k==8)=false:=by simpa using h8
 have h9:(k==9)=false:=by simpa using h9
 have lj:(k==10)=false:=by simpa using lj
 have oB:(k==11)=false:=by simpa using oB
 have n5:(k==12)=false:=by simpa using n5
 have eK:(k==13)=false:=by simpa using eK
 have AN:(k==14)=false:=by simpa using AN
 have how:bO (.mk ⟨k,a,n,s,ks⟩ l)=false:=by
  show own ⟨k,a,n,s,ks⟩ _ _ _=_;simp [own,h1,h2,h3,h4,h5,h6,h7,h8,h9,lj,oB,n5,eK,AN]
 rw [how];refine aj Tryz.func217 Tryz.ntmps217 ?_;exact al
theorem W9 (k a n:Int) (s:ai) (ks:List Int) (l:List T) (ha:decide (a < 0)=true):GF Tryz.prog 217 [.agg (cT (.mk ⟨k,a,n,s,ks⟩ l))] [] (.v (.bool (bO (.mk ⟨k,a,n,s,ks⟩ l)))) []:=by
 have how:bO (.mk ⟨k,a,n,s,ks⟩ l)=false:=by
  show own ⟨k,a,n,s,ks⟩ _ _ _=_;unfold own;rw [if_pos ha]
 rw [how];refine aj Tryz.func217 Tryz.ntmps217 ?_;exact al
theorem Xb (k a n:Int) (s:ai) (ks:List Int) (l:List T) (ha:decide (a < 0)=false) (hk:(k != 1)=true) (hn:(n != 0)=true):GF Tryz.prog 217 [.agg (cT (.mk ⟨k,a,n,s,ks⟩ l))] [] (.v (.bool (bO (.mk ⟨k,a,n,s,ks⟩ l)))) []:=by
 have how:bO (.mk ⟨k,a,n,s,ks⟩ l)=false:=by
  show own ⟨k,a,n,s,ks⟩ _ _ _=_;unfold own;rw [if_neg (by show ¬ (decide (a < 0)=true);rw [ha];decide),if_pos (by show ((k != 1)&&(n != 0))=true;rw [hk,hn];rfl)]
 rw [how];refine aj Tryz.func217 Tryz.ntmps217 ?_;exact al
theorem PC (t:T) (hs:t.n.s.length<=1099511627776) (hl:t.kids.length<=1099511627776):GF Tryz.prog 217 [.agg (cT t)] [] (.v (.bool (bO t))) []:=by
 obtain ⟨⟨k,a,n,s,ks⟩,l⟩:=t
 cases ha:decide (a < 0) with
 | true=>exact W9 k a n s ks l ha
 | false =>
 by_cases rN:k=1
 ·subst rN;exact W0 a n s ks l hs hl ha
 by_cases hn:n=0
 ·subst hn
  by_cases h:k=1\/k=2\/k=3\/k=4\/k=5\/k=6\/k=7\/k=8\/k=9\/k=10\/k=11\/k=12\/k=13\/k=14
  ·rcases h with rfl | rfl | rfl | rfl | rfl | rfl | rfl | rfl | rfl | rfl | rfl | rfl | rfl | rfl
   ·exact absurd rfl rN
   ·exact W1 a s ks l hs hl ha
   ·exact W2 a s ks l hs hl ha
   ·exact W3 a s ks l hs hl ha
   ·exact W4 a s ks l hs hl ha
   ·exact W5 a s ks l hs hl ha
   ·exact W6 a s ks l hs hl ha
   ·exact W7 a s ks l hs hl ha
   ·exact W8 a s ks l hs hl ha
   ·exact Vr a s ks l hs hl ha
   ·exact Vs a s ks l hs hl ha
   ·exact Vt a s ks l hs hl ha
   ·exact Vu a s ks l hs hl ha
   ·exact Vv a s ks l hs hl ha
  ·exact Xc k a 0 s ks l (by simp) h ha rfl
 ·exact Xb k a n s ks l ha (by simpa using rN) (by simpa using hn)
theorem Lu (l:List T):bX l=l.all c6:=by
 induction l with
 | nil=>simp [bX]
 | cons a l ih=>simp [bX,ih]
theorem PB:∀ (sz:Nat) (t:T),SizeOf.sizeOf t<=sz->F9 t->GF Tryz.prog 189 [.agg (cT t)] [] (.v (.bool (c6 t))) []:=by
 intro sz
 induction sz with
 | zero=>intro t h _;cases t;simp at h
 | succ sz ih =>
 intro t cR iU;obtain ⟨n,l⟩:=t;have aaD:=iU;rw [F9] at iU;obtain ⟨hs,hl,hm⟩:=iU
 have how:c6 (.mk n l)=(bX l&&bO (.mk n l)):=by rw [c6]
 rw [how];rw [Lu];refine aj Tryz.func189 Tryz.ntmps189 ?_;refine GW.range (aS l).length (fun k fr Γ=>fr=[.U,.loc 0 0,.U,.U,.U,.U,.sl 6 (aS l),.v (ii ((aS l).length:Int)),.v (ii (k:Nat)),.U,.U,.U,.U,.U,.U,.U,.U,.U]/\Γ=[.box 94 (cT (.mk n l))]/\((l.take k).all c6)=true) ?_ (by rw [aU];exact hl) ?_ ?_ ?_
 ·exact iF
 ·exact fE
 ·rintro k _ _ hk ⟨rfl,rfl,hf⟩
  have hk:k < l.length:=by rw [aU] at hk;exact hk
  have hx:l[k]?=some l[k]:=by simp [hk]
  have vZ:=mem_of_getElem? hx;have ao:=List.sizeOf_lt_of_mem vZ;have hr:=cS hx;have he:=ih l[k] (by simp at cR;omega) (Gb hm vZ);generalize l[k]=x at *
  cases hb:c6 x with
  | true =>
   rw [hb] at he;refine ae ?_;refine ab [] he ?_;exact ⟨rfl,rfl,_,_,(Wk.cut (n:=1) (Nat.le_of_ble_eq_true rfl) rfl).trans (Wk.aD ar),rfl,rfl,by rw [take_add_one,hx,all_append,hf];simp only [Option.toList,all_cons,all_nil,hb];rfl⟩
  | false =>
   rw [hb] at he;refine ae ?_;refine ab [] he ?_;refine bU ?_
   have ha:(l.all c6)=false:=by
    rw [all_eq_false];exact ⟨x,mem_of_getElem? hx,by simp [hb]⟩
   rw [ha];exact ⟨rfl,rfl⟩
 ·rintro _ _ ⟨rfl,rfl,hf⟩
  have hf:(l.all c6)=true:=by
   rw [take_of_length_le (by rw [aU];omega)] at hf;exact hf
  rw [hf];refine ae ?_;refine ab [] (PC (.mk n l) hs hl) ?_;exact al
theorem PA (t:T) (h:F9 t):GF Tryz.prog 189 [.agg (cT t)] [] (.v (.bool (c6 t))) []:=PB _ t (Nat.le_refl _) h
structure Bw (p:Src):Prop where
 globals:p.globals.length<=1000000000000/\∀ s∈p.globals,s.length<=1000000000000
 arrays:p.arrays.length<=1000000000000/\∀ a∈p.arrays,a.name.length<=1000000000000
 fns:p.fns.length<=1000000000000/\∀ f∈p.fns,f.name.length<=1000000000000/\f.params.length<=1000000000000/\∀ s∈f.params,s.length<=1000000000000
 nodes:p.nodes.length<=1000000000000/\∀ n∈p.nodes,n.s.length<=1000000000000/\n.kids.length<=1000000000000
theorem IZ {l:List ai} {i:Nat} {s:ai} (h:l[i]?=some s):(l.map fun s=>[GV.v (sv s)])[i]?=some [.v (sv s)]:=by rw [getElem?_map,h];rfl
theorem F0 {l:List Ar} {i:Nat} {s:Ar} (h:l[i]?=some s):(l.map aH)[i]?=some (aH s):=by rw [getElem?_map,h];rfl
theorem Bo {l:List Go.Sp.Fn} {i:Nat} {s:Go.Sp.Fn} (h:l[i]?=some s):(l.map ax)[i]?=some (ax s):=by rw [getElem?_map,h];rfl
theorem uL {α:Type} {l:List α} {q:α->Bool} {k:Nat} {x:α} (hx:l[k]?=some x) (hb:q x=false):l.all q=false:=by
 rw [all_eq_false];exact ⟨x,mem_of_getElem? hx,by simp [hb]⟩
theorem Be (p:Src) (hp:Bw p) (b:Bool) (h:nW p=some b):GF Tryz.prog 151 [.agg (ay p)] [] (.v (.bool b)) []:=by
 unfold nW at h;refine aj Tryz.func151 Tryz.ntmps151 ?_;refine GW.range (p.globals.map fun s=>[GV.v (sv s)]).length (fun k fr Γ=>fr=[.U,.loc 0 0,.U,.v (ii 0),.U,.U,.U,.U,.U,.U,.U,.U,.U,.U,.U,strs p.globals,.v (ii ((p.globals.map fun s=>[GV.v (sv s)]).length:Int)),.v (ii (k:Nat)),.U,.U,.U,.U,.U,.U,.U,.U,.U,.U,.U,.U,.U,.U,.U,.U,.U,.U,.U,.U,.U,.U,.U,.U,.U,.U,.U,.U,.U,.U,.U,.U,.U,.U,.U,.U,.U,.U,.U,.U,.U,.U,.U,.U,.U,.U,.U,.U,.U,.U,.U,.U,.U,.U,.U,.U,.U,.U,.U,.U,.U,.U,.U,.U,.U,.U,.U,.U,.U,.U,.U,.U,.U,.U,.U,.U,.U,.U,.U,.U,.U,.U,.U,.U,.U,.U,.U]/\Γ=[.box 34 (ay p)]/\((p.globals.take k).all bs)=true) ?_ (by simpa using by have:=hp.globals.1;omega) ?_ ?_ ?_
 ·exact iF
 ·exact fE
 ·rintro k _ _ hk ⟨rfl,rfl,hf⟩
  have hk:k < p.globals.length:=by simpa using hk
  have hx:p.globals[k]?=some p.globals[k]:=by simp [hk]
  have hr:=IZ hx;have hl:=hp.globals.2 _ (mem_of_getElem? hx);generalize p.globals[k]=x at *;have he:=ea x ah
  cases hb:bs x with
  | true =>
   rw [hb] at he;refine ae ?_;refine ab [] he ?_;exact ⟨rfl,rfl,_,_,Wk.aD ar,rfl,rfl,sD hx hf hb⟩
  | false =>
   rw [hb] at he;rw [if_pos (show cw p.globals=false from uL hx hb)] at h;cases h;refine ae ?_;refine ab [] he ?_;exact al
 ·rintro _ _ ⟨rfl,rfl,hf⟩;rw [take_of_length_le (by simp)] at hf;rw [if_neg (by rw [show cw p.globals=true from hf];decide)] at h;refine ae ?_;refine GW.range (p.arrays.map aH).length (fun k fr Γ=>fr=[.U,.loc 0 0,.U,.v (ii 0),.U,.U,.U,.U,.U,.U,.U,.U,.U,.U,.U,.U,.U,.U,.U,.U,.U,.U,.U,.U,.U,.U,.sl 2 (p.arrays.map aH),.v (ii ((p.arrays.map aH).length:Int)),.v (ii (k:Nat)),.U,.U,.U,.U,.U,.U,.U,.U,.U,.U,.U,.U,.U,.U,.U,.U,.U,.U,.U,.U,.U,.U,.U,.U,.U,.U,.U,.U,.U,.U,.U,.U,.U,.U,.U,.U,.U,.U,.U,.U,.U,.U,.U,.U,.U,.U,.U,.U,.U,.U,.U,.U,.U,.U,.U,.U,.U,.U,.U,.U,.U,.U,.U,.U,.U,.U,.U,.U,.U,.U,.U,.U,.U,.U,.U,.U]/\Γ=[.box 34 (ay p)]/\((p.arrays.take k).all og)=true) ?_ (by simpa using by have:=hp.arrays.1;omega) ?_ ?_ ?_
  ·exact iF
  ·exact fE
  ·rintro k _ _ hk ⟨rfl,rfl,hf⟩
   have hk:k < p.arrays.length:=by simpa using hk
   have hx:p.arrays[k]?=some p.arrays[k]:=by simp [hk]
   have hr:=F0 hx;have hl:=hp.arrays.2 _ (mem_of_getElem? hx);generalize p.arrays[k]=x at *;have he:=ea x.name ah
   cases hb:bs x.name with
   | false =>
    rw [hb] at he;rw [if_pos (uL hx (by simp [og,hb]))] at h;cases h;refine ae ?_;refine ab [] he ?_;exact al
   | true =>
    rw [hb] at he
    cases h1:decide (x.size < 0) with
    | true =>
     rw [if_pos (uL hx (by simp only [og,hb,h1];rfl))] at h;cases h;refine ae ?_;refine ab [] he ?_;exact al
    | false =>
     cases h2:decide (2147483647 < x.size) with
     | true =>
      rw [if_pos (uL hx (by simp only [og,hb,h1,h2];rfl))] at h;cases h;refine ae ?_;refine ab [] he ?_;exact al
     | false =>
      refine ae ?_;refine ab [] he ?_;exact ⟨rfl,rfl,_,_,(Wk.cut (n:=1) (Nat.le_of_ble_eq_true rfl) rfl).trans (Wk.aD ar),rfl,rfl,sD hx hf (by simp only [og,hb,h1,h2];rfl)⟩
  ·rintro _ _ ⟨rfl,rfl,hf⟩;rw [take_of_length_le (by simp)] at hf;rw [if_neg (by rw [hf];decide)] at h;refine ae ?_;refine GW.range (p.fns.map ax).length (fun k fr Γ=>∃ nx,fr=[.U,.loc 0 0,.U,.v (ii nx),.U,.U,.U,.U,.U,.U,.U,.U,.U,.U,.U,.U,.U,.U,.U,.U,.U,.U,.U,.U,.U,.U,.U,.U,.U,.U,.U,.U,.U,.U,.U,.U,.U,.U,.U,.U,.U,.U,.U,.U,.U,.U,.U,.U,.sl 3 (p.fns.map ax),.v (ii ((p.fns.map ax).length:Int)),.v (ii (k:Nat)),.U,.U,.U,.U,.U,.U,.U,.U,.U,.U,.U,.U,.U,.U,.U,.U,.U,.U,.U,.U,.U,.U,.U,.U,.U,.U,.U,.U,.U,.U,.U,.U,.U,.U,.U,.U,.U,.U,.U,.U,.U,.U,.U,.U,.U,.U,.U,.U,.U,.U,.U,.U,.U,.U]/\Γ=[.box 34 (ay p)]/\0<=nx/\(match fR p.nodes (p.fns.drop k) nx with | none=>none | some none=>some false | some (some next)=>some (next==(p.nodes.length:Int)&&decide (next<=800)))=some b) ?_ (by simpa using by have:=hp.fns.1;omega) ?_ ?_ ?_
   ·exact ⟨_,_,Wk.aD ar,_,rfl,rfl,Int.le_refl _,h⟩
   ·rintro k _ _ ⟨_,rfl,rfl,_⟩;exact dO
   ·clear h hf;rintro k _ _ hk ⟨nx,rfl,rfl,mx,h⟩
    have hk:k < p.fns.length:=by simpa using hk
    have hx:p.fns[k]?=some p.fns[k]:=by simp [hk]
    have hr:=Bo hx;have hl:=hp.fns.2 _ (mem_of_getElem? hx);rw [drop_eq_getElem_cons hk,fR] at h;generalize p.fns[k]=x at *
    cases he:oh p.nodes (fN p.nodes) nx.toNat 0 with
    | none=>rw [he] at h;cases h
    | some e =>
    rw [he] at h;simp only at h;have oV:=Wg p hp.nodes.1 (fun n hn=>(hp.nodes.2 n hn).2) _ _ 0 _ ah he;rw [Int.toNat_of_nonneg mx] at oV;have bN:=ea x.name ah
    by_cases h1:x.body=nx
    ·have cI:(x.body != nx)=false:=by simpa using h1
     cases hb:bs x.name with
     | false =>
      rw [hb] at bN;rw [if_pos (.inr (.inl hb))] at h;cases h;refine ae ?_;refine ab [] oV ?_;refine ab [] bN ?_;exact al
     | true =>
      rw [hb] at bN
      by_cases h2:e < 0
      ·have qh:decide (e < 0)=true:=by simpa using h2
       rw [if_pos (.inr (.inr h2))] at h;cases h;refine ae ?_;refine ab [] oV ?_;refine ab [] bN ?_;exact al
      ·have qh:decide (e < 0)=false:=by simpa using h2
       rw [if_neg (by rw [hb];simp [h1,h2])] at h;refine ae ?_;refine ab [] oV ?_;refine ab [] bN ?_;refine GW.range (x.params.map fun s=>[GV.v (sv s)]).length (fun j fr Γ=>fr=[.U,.loc 0 0,.U,.v (ii nx),.U,.U,.U,.U,.U,.loc 1 0,.v (ii e),.U,.U,.U,.U,.U,.U,.U,.U,.U,.U,.U,.U,.U,.U,.U,.U,.U,.U,.U,.U,.U,.U,.U,.U,.U,.U,.U,.U,.U,.U,.U,.U,.U,.U,.U,.U,.U,.sl 3 (p.fns.map ax),.v (ii ((p.fns.map ax).length:Int)),.v (ii (k:Nat)),.U,.U,.U,.U,.U,.U,.U,.U,.U,.U,.U,.U,.U,.U,.U,.U,.U,.U,.U,.U,.U,strs x.params,.v (ii ((x.params.map fun s=>[GV.v (sv s)]).length:Int)),.v (ii (j:Nat)),.U,.U,.U,.U,.U,.U,.U,.U,.U,.U,.U,.U,.U,.U,.U,.U,.U,.U,.U,.U,.U,.U,.U,.U,.U,.U,.U,.U,.U,.U]/\Γ=[.box 34 (ay p),.box 60 (ax x)]/\((x.params.take j).all bs)=true) ?_ (by simpa using by omega) ?_ ?_ ?_
       ·exact iF
       ·exact fE
       ·rintro j _ _ hj ⟨rfl,rfl,hf⟩
        have hj:j < x.params.length:=by simpa using hj
        have nC:x.params[j]?=some x.params[j]:=by simp [hj]
        have Rc:=IZ nC;have mw:=hl.2.2 _ (mem_of_getElem? nC);generalize x.params[j]=y at *;have bP:=ea y ah
        cases hb:bs y with
        | true =>
         rw [hb] at bP;refine ae ?_;refine ab [] bP ?_;exact ⟨rfl,rfl,_,_,Wk.aD ar,rfl,rfl,sD nC hf hb⟩
        | false =>
         rw [hb] at bP;rw [if_pos (show cw x.params=false from uL nC hb)] at h;cases h;refine ae ?_;refine ab [] bP ?_;exact al
       ·rintro _ _ ⟨rfl,rfl,hf⟩;rw [take_of_length_le (by simp)] at hf;rw [if_neg (by rw [show cw x.params=true from hf];decide)] at h
        cases hs:sub p.nodes (fN p.nodes) nx.toNat with
        | none=>rw [hs] at h;cases h
        | some t =>
        rw [hs] at h;simp only at h;have pN:=D4 p (fun n hn=>(hp.nodes.2 n hn).2) _ _ _ hs;rw [Int.toNat_of_nonneg mx] at pN;have aM:=PA t ((VO (fun n hn=>by have:=hp.nodes.2 n hn;omega) _).1 _ _ hs)
        by_cases h3:t.n.kind=14
        ·have kh:(t.n.kind != 14)=false:=by simpa using h3
         cases hb:c6 t with
         | false =>
          rw [hb] at aM;rw [if_pos (.inr hb)] at h;cases h;refine ae ?_;refine ab [] pN ?_;refine ab [] aM ?_;exact al
         | true =>
          rw [hb] at aM;rw [if_neg (by rw [hb];simp [h3])] at h;refine ae ?_;refine ab [] pN ?_;refine ab [] aM ?_;exact ⟨rfl,rfl,_,_,(Wk.cut (n:=1) (Nat.le_of_ble_eq_true rfl) rfl).trans (Wk.aD ar),_,rfl,rfl,by omega,h⟩
        ·have kh:(t.n.kind != 14)=true:=by simpa using h3
         rw [if_pos (.inl h3)] at h;cases h;refine ae ?_;refine ab [] pN ?_;exact al
    ·have cI:(x.body != nx)=true:=by simpa using h1
     rw [if_pos (.inl h1)] at h;cases h;refine ae ?_;refine ab [] oV ?_;exact al
   ·clear h hf;rintro _ _ ⟨nx,rfl,rfl,mx,h⟩;rw [length_map,List.drop_length,fR] at h;simp only at h;cases h
    cases h1:(nx==(p.nodes.length:Int)) with
    | false =>
     have cI:(nx==((p.nodes.map az).length:Int))=false:=by rw [length_map];exact h1
     exact aw
    | true =>
     have cI:(nx==((p.nodes.map az).length:Int))=true:=by rw [length_map];exact h1
     exact aw
def mP (k:Int) (s:ai):Int:=if k=6 then (match levels.findIdx? (fun l=>l.contains s) with | some i=>(i:Int) | none => -1) else 9
theorem J8 (t:T):GF Tryz.prog 277 [.agg (cT t)] [] (.v (.int .i64 (mP t.n.kind t.n.s))) []:=by
 refine df Tryz.func277 Tryz.ntmps277 ?_
 by_cases h6:t.n.kind=6
 ·have h6':(t.n.kind != 6)=false:=by simpa using h6
  unfold mP;rw [if_pos h6];refine ae ?_;refine ab [] jF ?_;refine GW.range (levels.map fun l=>[strs l]).length (fun k fr Γ=>fr=[.U,.loc 0 0,.U,.U,.U,.U,.U,.U,.U,.U,.U,.sl 1 (levels.map fun l=>[strs l]),.v (ii ((levels.map fun l=>[strs l]).length:Int)),.v (ii (k:Nat)),.U,.U,.U,.U,.U,.U,.U,.U,.U,.U,.U]/\Γ=[.box 94 (cT t)]/\((levels.take k).any fun l=>l.contains t.n.s)=false) ?_ aK ?_ ?_ ?_
  ·exact iF
  ·exact fE
  ·rintro k _ _ hk ⟨rfl,rfl,hf⟩
   have hk:k < levels.length:=by simpa using hk
   have hx:levels[k]?=some levels[k]:=by simp [hk]
   have hr:(levels.map fun l=>[strs l])[k]?=some [strs levels[k]]:=by simp [hk]
   have wY:levels[k].length<=1099511627776:=by
    have:∀ l∈levels,l.length<=1099511627776:=by decide
    exact this _ (getElem_mem hk)
   have ze:levels[k].contains t.n.s=true->levels.findIdx? (fun l=>l.contains t.n.s)=some k:=by
    intro hc;rw [List.findIdx?_eq_some_iff_getElem];refine ⟨hk,hc,fun j hj=>?_⟩;rw [List.any_eq_false] at hf;refine hf _ ?_;rw [List.mem_take_iff_getElem];exact ⟨j,by omega,rfl⟩
   generalize levels[k]=x at *;have hh:=jk x t.n.s wY
   cases hb:x.contains t.n.s with
   | true =>
    rw [hb] at hh;rw [ze hb];refine ae ?_;refine ab [] hh ?_;exact al
   | false =>
    rw [hb] at hh;refine ae ?_;refine ab [] hh ?_;exact ⟨rfl,rfl,_,_,Wk.aD ar,rfl,rfl,by rw [take_add_one,hx,List.any_append,hf];simp only [Option.toList,List.any_cons,List.any_nil,hb];rfl⟩
  ·rintro _ _ ⟨rfl,rfl,hf⟩;rw [take_of_length_le (by simp)] at hf
   have hn:levels.findIdx? (fun l=>l.contains t.n.s)=none:=by
    rw [List.findIdx?_eq_none_iff];intro x hx;rw [List.any_eq_false] at hf;simpa using hf x hx
   rw [hn];exact aw
 ·have h6':(t.n.kind != 6)=true:=by simpa using h6
  unfold mP;rw [if_neg h6];refine ae ?_;refine ab [] jF ?_;exact al
end Go.Xg
namespace Go.Xg
open Go.RowKit Go.Xw Go.Proofs
open Go.Xp (Tok Nd T bo one levels Ar yQ cE oU)
open Go.Sp
attribute [local irreducible] GW GL GO YG GC GA aY ba
theorem RW (n:Int):GF Tryz.prog 300 [.v (ii n)] [] (.v (ii (n % 4294967296))) []:=by
 refine aj Tryz.func300 Tryz.ntmps300 ?_;exact al
theorem TA (n:Int):GF Tryz.prog 292 [.v (ii n)] [] (.v (ii (yQ n))) []:=by
 unfold yQ
 have hb:0<=n % 4294967296/\n % 4294967296 < 4294967296:=by omega
 have hp:=RW n;generalize n % 4294967296=m at *;refine df Tryz.func292 Tryz.ntmps292 ?_
 by_cases h:m > 2147483647
 ·have h':decide ((2147483647:Int) < m)=true:=by simpa using h
  rw [if_pos h];refine ae ?_;refine ab [] hp ?_;exact al
 ·have h':decide ((2147483647:Int) < m)=false:=by simpa using h
  rw [if_neg h];refine ae ?_;refine ab [] hp ?_;exact al
theorem x5 (k:Nat) (h:k<=57):[[GV.v (.int .u8 (k:Int))]]=[UInt8.ofNat k].map fun c=>[GV.v (.int .u8 (c.toNat:Int))]:=by
 have:(UInt8.ofNat k).toNat=k:=by simp;omega
 simp [this]
theorem G7 (n:Nat) (hn:n<=1099511627776):GF Tryz.prog 293 [.v (ii (n:Int))] [] (.v (sv (cE n))) []:=by
 induction n using Nat.strongRecOn with
 | _ n ih =>
 unfold cE;refine df Tryz.func293 Tryz.ntmps293 ?_
 by_cases h:n < 10
 ·have h':decide ((n:Int) < 10)=true:=by simpa using by omega
  have hw:=x5 (48+n) ah;rw [Int.natCast_add] at hw;rw [dif_pos h];refine ae ?_;refine bS ?_;exact aw
 ·have h':decide ((n:Int) < 10)=false:=by simpa using by omega
  rw [dif_neg h];have hc:=ih (n / 10) ah ah;have hl:=oU (n / 10);have hw:=x5 (48+n % 10) ah;rw [Int.natCast_add] at hw;refine ae ?_;refine aJ (.q 0 (.q 1 (aC 3 4 (.f 2 (.a 7 (aC 8 3 .nil)) 7 (.q 8 (.a 2 (.q 9 (.q 10 .nil)))))))) ?_;refine au ?_;refine GO.fork ?_ ?_
  ·refine aE [] hc ?_;refine ey ?_;refine au ?_;exact aw
  ·refine ey ?_;refine au ?_;refine aE [] hc ?_;exact aw
end Go.Xg
namespace Go.Xg
open Go.RowKit Go.Xw Go.Proofs
open Go.Xp (Tok Nd T bo one levels Ar yQ cE oU E S er aP wt eI qf dM bD)
open Go.Sp
attribute [local irreducible] GW GL GO YG GC GA aY ba
theorem ef {nd:Nd} {l l':List T} {k v:Int} {s:ai} (h:er (.mk nd l)=.mk ⟨k,0,v,s,[]⟩ l'):nd.kind=k/\nd.n=v/\nd.s=s/\aP l=l':=by
 rw [er] at h
 injection h with h1 h2
 injection h1 with a b c d e
 exact ⟨a,c,d,h2⟩
theorem vT {l:List T} {x:T} (h:aP l=[x]):∃ t,l=[t]/\er t=x:=by
 match l,h with
 | [t],h=>rw [aP,aP] at h;injection h with h1;exact ⟨t,rfl,h1⟩
 | [],h=>rw [aP] at h;cases h
 | t::u::r,h=>rw [aP,aP] at h;injection h with h1 h2;cases h2
theorem BX {l:List T} {x y:T} (h:aP l=[x,y]):∃ t u,l=[t,u]/\er t=x/\er u=y:=by
 match l,h with
 | t::r,h =>
  rw [aP] at h;injection h with h1 h2
  obtain ⟨u,rfl,h3⟩:=vT h2;exact ⟨t,u,rfl,h1,h3⟩
 | [],h=>rw [aP] at h;cases h
theorem Yk {l:List T} {x y z:T} (h:aP l=[x,y,z]):∃ t u w,l=[t,u,w]/\er t=x/\er u=y/\er w=z:=by
 match l,h with
 | t::r,h =>
  rw [aP] at h;injection h with h1 h2
  obtain ⟨u,w,rfl,h3,h4⟩:=BX h2;exact ⟨t,u,w,rfl,h1,h3,h4⟩
 | [],h=>rw [aP] at h;cases h
theorem Qm {a:E} (h:a.ok=true) {t:T} (ht:er t=a.tree):mP t.n.kind t.n.s=(a.lv:Int):=by
 obtain ⟨nd,l⟩:=t
 cases a with
 | bin s a b =>
  obtain ⟨h1,_,h2,_⟩:=ef ht;simp only [E.ok,Bool.and_eq_true] at h;have h9:=(Go.Xp.pk h.1.1).1;simp only [T.n,h1,h2,mP,if_pos,E.lv];unfold dM at h9 |-
  cases hf:levels.findIdx? (fun l=>l.contains s) with
  | none=>rw [hf] at h9;exact absurd h9 aK
  | some i=>rfl
 | num n=>obtain ⟨h1,_⟩:=ef ht;simp only [T.n,h1,mP];rfl
 | name n=>obtain ⟨h1,_⟩:=ef ht;simp only [T.n,h1,mP];rfl
 | at_ s a=>obtain ⟨h1,_⟩:=ef ht;simp only [T.n,h1,mP];rfl
 | call s a=>obtain ⟨h1,_⟩:=ef ht;simp only [T.n,h1,mP];rfl
 | un s a=>obtain ⟨h1,_⟩:=ef ht;simp only [T.n,h1,mP];rfl
theorem qH {a:E} (h:a.ok=true) {t:T} (ht:er t=a.tree):GF Tryz.prog 277 [.agg (cT t)] [] (.v (ii (a.lv:Int))) []:=by
 have:=J8 t;rw [Qm h ht] at this;exact this
theorem CI (n:Int) (h:0<=n/\n<=2147483647):GF Tryz.prog 278 [.v (ii n)] [] (.v (sv (cE n.toNat))) []:=by
 have hw:=TA n
 have oJ:yQ n=n:=by unfold yQ;rw [show n % 4294967296=n by omega,if_neg ah]
 rw [oJ] at hw;have hd:=G7 n.toNat ah;rw [Int.toNat_of_nonneg h.1] at hd
 have h':decide (n < 0)=false:=by simpa using h.1
 refine aj Tryz.func278 Tryz.ntmps278 ?_;refine ab [] hw ?_;refine ab [] hd ?_;exact al
abbrev lim:Nat:=1000000000000
def qY (a:E):Prop:=∀ (t:T) (k:Nat),a.ok=true->er t=a.tree->wt a.tree<=lim->¬ a.lv < k->GF Tryz.prog 252 [.agg (cT t),.v (ii (k:Int))] [] (.v (sv a.txt)) []
def ox (a:E):Prop:=∀ (t:T) (k:Nat),a.ok=true->er t=a.tree->wt a.tree<=lim->GF Tryz.prog 252 [.agg (cT t),.v (ii (k:Int))] [] (.v (sv (qf a.lv k a.txt))) []
theorem qY.p {a:E} (C:qY a):ox a:=by
 intro t k ho ht hb;unfold qf
 by_cases h:a.lv < k
 ·rw [if_pos h]
  have h':decide ((a.lv:Int) < (k:Int))=true:=by simpa using h
  have hl:=(E.len a ho).1;have h0:=C t 0 ho ht hb ah;have QX:=hb;unfold lim at QX;generalize a.txt=x at *;refine aj Tryz.func252 Tryz.ntmps252 ?_;refine ab [] (qH ho ht) ?_;refine ab [] h0 ?_;exact al
 ·rw [if_neg h];exact C t k ho ht hb h
theorem Np (n:Int):qY (.num n):=by
 intro t k ho ht hb h
 have h':decide (((E.num n).lv:Int) < (k:Int))=false:=by simpa using h
 have hg:=qH ho ht;obtain ⟨⟨kk,aa,vv,ss,ks⟩,l⟩:=t;obtain ⟨h1,h2,h3,hl⟩:=ef ht;simp only at h1 h2 h3;subst h1 h2 h3;simp only [E.ok,Bool.and_eq_true] at ho;have hn:=CI vv ⟨of_decide_eq_true ho.1,of_decide_eq_true ho.2⟩;rw [E.txt];simp only [cT,T.n,T.kids] at hg |-;refine aj Tryz.func252 Tryz.ntmps252 ?_;refine ab [] hg ?_;refine ab [] hn ?_;exact al
theorem Kf (s:ai):qY (.name s):=by
 intro t k ho ht hb h
 have h':decide (((E.name s).lv:Int) < (k:Int))=false:=by simpa using h
 have hg:=qH ho ht;obtain ⟨⟨kk,aa,vv,ss,ks⟩,l⟩:=t;obtain ⟨h1,h2,h3,hl⟩:=ef ht;simp only at h1 h2 h3;subst h1 h2 h3;rw [E.txt];simp only [cT,T.n,T.kids] at hg |-;refine aj Tryz.func252 Tryz.ntmps252 ?_;refine ab [] hg ?_;exact al
theorem PJ (s:ai) (a:E) (C:ox a):qY (.at_ s a):=by
 intro t k ho ht hb h
 have h':decide (((E.at_ s a).lv:Int) < (k:Int))=false:=by simpa using h
 have hg:=qH ho ht;obtain ⟨⟨kk,aa,vv,ss,ks⟩,l⟩:=t;obtain ⟨h1,h2,h3,hl⟩:=ef ht;simp only at h1 h2 h3;subst h1 h2 h3;obtain ⟨x,rfl,hx⟩:=vT hl;simp only [E.ok,Bool.and_eq_true] at ho;rw [E.tree,wt] at hb;simp only [eI,lim] at hb;have hc:=C x 0 ho.2 hx (by unfold lim;omega);unfold qf at hc;rw [if_neg ah] at hc;have hle:=(E.len a ho.2).1;have hr:(aS [x])[0]?=some (cT x):=cS rfl;rw [E.txt];generalize a.txt=y at *;simp only [cT,T.n,T.kids] at hg |-;refine aj Tryz.func252 Tryz.ntmps252 ?_;refine ab [] hg ?_;refine aJ (aC 0 8 (.a 8 (aC 9 3 .nil))) ?_;refine au ?_;refine aE [] hc ?_;exact aw
theorem PK (s:ai) (a:E) (C:ox a):qY (.un s a):=by
 intro t k ho ht hb h
 have h':decide (((E.un s a).lv:Int) < (k:Int))=false:=by simpa using h
 have hg:=qH ho ht;obtain ⟨⟨kk,aa,vv,ss,ks⟩,l⟩:=t;obtain ⟨h1,h2,h3,hl⟩:=ef ht;simp only at h1 h2 h3;subst h1 h2 h3;obtain ⟨x,rfl,hx⟩:=vT hl;simp only [E.ok,Bool.and_eq_true] at ho;rw [E.tree,wt] at hb;simp only [eI,lim] at hb;have hc:=C x 9 ho.2 hx (by unfold lim;omega);have hle:=(E.len a ho.2).1;have zQ:=Go.Xp.r9 a.lv 9 a.txt;have hr:(aS [x])[0]?=some (cT x):=cS rfl;rw [E.txt];generalize qf a.lv 9 a.txt=y at *;simp only [cT,T.n,T.kids] at hg |-;refine aj Tryz.func252 Tryz.ntmps252 ?_;refine ab [] hg ?_;refine aJ (aC 0 8 (.a 8 (.q 9 (.a 10 (.q 11 (.q 12 .nil)))))) ?_;refine au ?_;refine aE [] jF ?_;refine aE [] hc ?_;exact aw
theorem Nn (s:ai) (a b:E) (Ca:ox a) (Cb:ox b):qY (.bin s a b):=by
 intro t k ho ht hb h
 have h':decide (((E.bin s a b).lv:Int) < (k:Int))=false:=by simpa using h
 have hg:=qH ho ht;obtain ⟨⟨kk,aa,vv,ss,ks⟩,l⟩:=t;obtain ⟨h1,h2,h3,hl⟩:=ef ht;simp only at h1 h2 h3;subst h1 h2 h3;obtain ⟨x,y,rfl,hx,hy⟩:=BX hl;simp only [E.ok,Bool.and_eq_true] at ho;rw [E.tree,wt] at hb;simp only [eI,lim] at hb;have Ur:=Ca x (dM ss) ho.1.2 hx (by unfold lim;omega);have zd:=Cb y (dM ss+1) ho.2 hy (by unfold lim;omega);have Ig:=(Go.Xp.pk ho.1.1).1;have hle:=(E.len a ho.1.2).1;have zQ:=Go.Xp.r9 a.lv (dM ss) a.txt;have Zb:=(E.len b ho.2).1;have aan:=Go.Xp.r9 b.lv (dM ss+1) b.txt;have hr:(aS [x,y])[0]?=some (cT x):=cS rfl;have dd:(aS [x,y])[1]?=some (cT y):=cS rfl;rw [E.txt];simp only [E.lv] at hg h';generalize qf a.lv (dM ss) a.txt=u at *;generalize qf b.lv (dM ss+1) b.txt=w at *;simp only [cT,T.n,T.kids] at hg |-;refine aj Tryz.func252 Tryz.ntmps252 ?_;refine ab [] hg ?_;refine ab [] hg ?_;refine aJ (aC 0 5 (aC 7 3 (aC 12 6 (.a 5 (.q 6 (.q 10 (.q 11 (.a 18 (.q 19 (.q 20 .nil)))))))))) ?_;refine au ?_;refine aE [] Ur ?_;refine aE [] zd ?_;exact aw
end Go.Xg
namespace Go.Xg
open Go.RowKit Go.Xw Go.Proofs
open Go.Xp (Tok Nd T bo one levels Ar cE E S er aP wt eI qf dM bD Bc wa)
open Go.Sp
attribute [local irreducible] GW GL GO YG GC GA aY ba
def Jr (b:Bool) (a:E):Prop:=∀ t,er t=a.tree->GF Tryz.prog 218 [.agg (cT t),.v (.bool b)] [] (.v (sv (a.out b))) []
theorem L5:∀ {ts:List T} {es:List E} (h:aP ts=E.trees es),ts.length=es.length/\∀ (k:Nat) t a,ts[k]?=some t->es[k]?=some a->er t=a.tree
 | [],[],_=>⟨rfl,fun k t a h=>by simp at h⟩
 | [],a::l,h=>by rw [aP,E.trees] at h;cases h
 | t::r,[],h=>by rw [aP,E.trees] at h;cases h
 | t::r,a::l,h=>by
  rw [aP,E.trees] at h
  injection h with h1 h2
  obtain ⟨h3,h4⟩:=L5 h2;refine ⟨by simp [h3],fun k t' a' ht ha=>?_⟩
  cases k with
  | zero=>cases ht;cases ha;exact h1
  | succ k=>exact h4 k t' a' (by simpa using ht) (by simpa using ha)
theorem Dp (b:Bool) (es:List E) (C:∀ a∈es,Jr b a) (ts:List T) (sX:aP ts=E.trees es) (hb:(bD (es.map (E.out b))).length<=lim) (hn:es.length<=lim) :
  GF Tryz.prog 279 [.sl 6 (aS ts),.v (.bool b)] [] (.v (sv (bD (es.map (E.out b))))) []:=by
 obtain ⟨hlen,wT⟩:=L5 sX;unfold lim at hb hn;refine aj Tryz.func279 Tryz.ntmps279 ?_;refine GW.range (aS ts).length (fun k fr Γ=>∃ y,fr=[.U,.v (.bool b),.U,.U,.U,.v (sv y),.U,.U,.sl 6 (aS ts),.v (ii ((aS ts).length:Int)),.v (ii (k:Nat)),.U,.U,.U,.U,.U,.U,.U,.U,.U,.U,.U,.U,.U,.U,.U]/\Γ=[]/\y=bD ((es.map (E.out b)).take k)) ?_ (by rw [aU];omega) ?_ ?_ ?_
 ·exact ⟨_,_,Wk.aD ar,[],rfl,rfl,by simp [bD]⟩
 ·rintro k _ _ ⟨y,rfl,rfl,_⟩;exact dO
 ·rintro k _ _ hk ⟨y,rfl,rfl,hy⟩
  have hk:k < es.length:=by rw [aU,hlen] at hk;exact hk
  have wW:k < ts.length:=by omega
  have hx:es[k]?=some es[k]:=by simp [hk]
  have ht:ts[k]?=some ts[k]:=by simp [wW]
  have he:=wT k _ _ ht hx;have hr:=cS ht;have hc:=C _ (mem_of_getElem? hx) _ he;have oF:=wa (es.map (E.out b)) (k+1);have Y5:=wa (es.map (E.out b)) k
  have ki:(es.map (E.out b)).take (k+1)=(es.map (E.out b)).take k++[es[k].out b]:=by
   rw [take_add_one,getElem?_map,hx];rfl
  rw [ki] at oF;generalize ts[k]=t at *;generalize es[k]=a at *;generalize a.out b=x at *
  by_cases h0:k=0
  ·subst h0
   have sM:decide ((0:Int) < ((0:Nat):Int))=false:=by decide
   have hj:bD ((es.map (E.out b)).take 0++[x])=[]++x:=by simp [bD]
   have MO:bD ((es.map (E.out b)).take 0)=[]:=by simp [bD]
   rw [MO] at hy;subst hy;rw [hj] at oF
   have oF:x.length<=(bD (es.map (E.out b))).length:=by simpa using oF
   refine ae ?_;refine ab [] hc ?_;exact ⟨rfl,rfl,_,_,(Wk.cut (n:=0) (Nat.le_of_ble_eq_true rfl) rfl).trans (Wk.aD ar),_,rfl,rfl,by rw [ki,hj]⟩
  ·have sM:decide ((0:Int) < (k:Int))=true:=by simpa using by omega
   have bJ:(es.map (E.out b)).take k≠[]:=by
    intro h;rw [List.take_eq_nil_iff] at h
    rcases h with h | h
    ·exact h0 h
    ·rw [List.map_eq_nil_iff] at h;subst h;simp at hk
   have hj:=Bc bJ x;rw [hj] at oF;rw [<-hy] at oF hj Y5;simp only [length_append,length_cons,length_nil] at oF;refine ae ?_;refine ab [] hc ?_;exact ⟨rfl,rfl,_,_,(Wk.cut (n:=0) (Nat.le_of_ble_eq_true rfl) rfl).trans (Wk.aD ar),_,rfl,rfl,by rw [ki,hj]⟩
 ·rintro _ _ ⟨y,rfl,rfl,hy⟩;have:(es.map (E.out b)).take (aS ts).length=es.map (E.out b):=take_of_length_le (by rw [aU,hlen];simp);rw [this] at hy;subst hy;exact aw
theorem ox.out {a:E} (C:ox a) (ho:a.ok=true) (hb:wt a.tree<=lim):Jr true a:=by
 intro t ht;have h0:=C t 0 ho ht hb;unfold qf at h0;rw [if_neg ah] at h0;show GF _ _ _ _ (.v (sv a.txt)) _;refine aj Tryz.func218 Tryz.ntmps218 ?_;refine ab [] h0 ?_;exact al
theorem CD:∀ l:List E,l.length<=eI (E.trees l)
 | []=>Nat.zero_le _
 | a::l=>by
  have:=CD l;rw [E.trees,eI,length_cons]
  have:1<=wt a.tree:=by cases a <;> (rw [E.tree,wt];omega)
  omega
theorem CE:∀ {l:List E} {a:E},a∈l->wt a.tree<=eI (E.trees l)
 | [],_,h=>by cases h
 | b::l,a,h=>by
  rw [E.trees,eI]
  rcases List.mem_cons.1 h with rfl | h
  ·omega
  ·have:=CE h;omega
theorem Cj:∀ {l:List E} {a:E},E.cM l=true->a∈l->a.ok=true
 | [],_,_,h=>by cases h
 | b::l,a,ho,h=>by
  simp only [E.cM,Bool.and_eq_true] at ho
  rcases List.mem_cons.1 h with rfl | h
  ·exact ho.1
  ·exact Cj ho.2 h
theorem Ke (s:ai) (es:List E) (C:∀ a∈es,ox a):qY (.call s es):=by
 intro t k ho ht hb h
 have h':decide (((E.call s es).lv:Int) < (k:Int))=false:=by simpa using h
 have hg:=qH ho ht;obtain ⟨⟨kk,aa,vv,ss,ks⟩,l⟩:=t;obtain ⟨h1,h2,h3,hl⟩:=ef ht;simp only at h1 h2 h3;subst h1 h2 h3;simp only [E.ok,Bool.and_eq_true] at ho;rw [E.tree,wt] at hb;have hle:=(E.lens es ho.2).1;have hn:=CD es
 have Fc:E.cL es=es.map (E.out true):=by rw [E.Qt];rfl
 have hj:=Dp true es (fun a ha=>(C a ha).out (Cj ho.2 ha) (by have:=CE ha;omega)) l hl (by rw [<-Fc];omega) ah;rw [<-Fc] at hj;unfold lim at hb;simp only at hb;rw [E.txt];generalize bD (E.cL es)=y at *;simp only [cT,T.n,T.kids] at hg |-;refine aj Tryz.func252 Tryz.ntmps252 ?_;refine ab [] hg ?_;refine aJ (aC 0 6 (.a 6 (aC 7 3 .nil))) ?_;refine au ?_;refine aE [] hj ?_;exact aw
mutual
theorem vg:∀ a:E,ox a
 | .num n=>(Np n).p
 | .name s=>(Kf s).p
 | .at_ s a=>(PJ s a (vg a)).p
 | .call s l=>(Ke s l (Iz l)).p
 | .un s a=>(PK s a (vg a)).p
 | .bin s a b=>(Nn s a b (vg a) (vg b)).p
theorem Iz:∀ l:List E,∀ a∈l,ox a
 | []=>fun a h=>by cases h
 | b::l=>fun a h=>by
  rcases List.mem_cons.1 h with h | h
  ·rw [h];exact vg b
  ·exact Iz l a h
end
def lW (a:E):Prop:=∀ (t:T),a.ok=true->er t=a.tree->wt a.tree<=lim->GF Tryz.prog 253 [.agg (cT t)] [] (.v (sv a.full)) []
theorem lW.out {a:E} (C:lW a) (ho:a.ok=true) (hb:wt a.tree<=lim):Jr false a:=by
 intro t ht;have h0:=C t ho ht hb;show GF _ _ _ _ (.v (sv a.full)) _;refine aj Tryz.func218 Tryz.ntmps218 ?_;refine ab [] h0 ?_;exact al
theorem O8 (n:Int):lW (.num n):=by
 intro t ho ht hb;obtain ⟨⟨kk,aa,vv,ss,ks⟩,l⟩:=t;obtain ⟨h1,h2,h3,hl⟩:=ef ht;simp only at h1 h2 h3;subst h1 h2 h3;simp only [E.ok,Bool.and_eq_true] at ho;have hn:=CI vv ⟨of_decide_eq_true ho.1,of_decide_eq_true ho.2⟩;rw [E.full];simp only [cT,T.n,T.kids];refine aj Tryz.func253 Tryz.ntmps253 ?_;refine ab [] hn ?_;exact al
theorem Mo (s:ai):lW (.name s):=by
 intro t ho ht hb;obtain ⟨⟨kk,aa,vv,ss,ks⟩,l⟩:=t;obtain ⟨h1,h2,h3,hl⟩:=ef ht;simp only at h1 h2 h3;subst h1 h2 h3;rw [E.full];simp only [cT,T.n,T.kids];refine aj Tryz.func253 Tryz.ntmps253 ?_;exact al
theorem Sq (s:ai) (a:E) (C:lW a):lW (.at_ s a):=by
 intro t ho ht hb;obtain ⟨⟨kk,aa,vv,ss,ks⟩,l⟩:=t;obtain ⟨h1,h2,h3,hl⟩:=ef ht;simp only at h1 h2 h3;subst h1 h2 h3;obtain ⟨x,rfl,hx⟩:=vT hl;simp only [E.ok,Bool.and_eq_true] at ho;rw [E.tree,wt] at hb;simp only [eI,lim] at hb;have hc:=C x ho.2 hx (by unfold lim;omega);have hle:=(E.len a ho.2).2;have hr:(aS [x])[0]?=some (cT x):=cS rfl;rw [E.full];generalize a.full=y at *;simp only [cT,T.n,T.kids] at |-;refine aj Tryz.func253 Tryz.ntmps253 ?_;refine aJ (aC 0 8 (.a 8 (aC 9 3 .nil))) ?_;refine au ?_;refine aE [] hc ?_;exact aw
theorem Mn (s:ai) (es:List E) (C:∀ a∈es,lW a):lW (.call s es):=by
 intro t ho ht hb;obtain ⟨⟨kk,aa,vv,ss,ks⟩,l⟩:=t;obtain ⟨h1,h2,h3,hl⟩:=ef ht;simp only at h1 h2 h3;subst h1 h2 h3;simp only [E.ok,Bool.and_eq_true] at ho;rw [E.tree,wt] at hb;have hle:=(E.lens es ho.2).2;have hn:=CD es
 have Fc:E.rW es=es.map (E.out false):=by rw [E.Mp];rfl
 have hj:=Dp false es (fun a ha=>(C a ha).out (Cj ho.2 ha) (by have:=CE ha;omega)) l hl (by rw [<-Fc];omega) ah;rw [<-Fc] at hj;unfold lim at hb;simp only at hb;rw [E.full];generalize bD (E.rW es)=y at *;simp only [cT,T.n,T.kids] at |-;refine aj Tryz.func253 Tryz.ntmps253 ?_;refine aJ (aC 0 6 (.a 6 (aC 7 3 .nil))) ?_;refine au ?_;refine aE [] hj ?_;exact aw
theorem Sr (s:ai) (a:E) (C:lW a):lW (.un s a):=by
 intro t ho ht hb;obtain ⟨⟨kk,aa,vv,ss,ks⟩,l⟩:=t;obtain ⟨h1,h2,h3,hl⟩:=ef ht;simp only at h1 h2 h3;subst h1 h2 h3;obtain ⟨x,rfl,hx⟩:=vT hl;simp only [E.ok,Bool.and_eq_true] at ho;rw [E.tree,wt] at hb;simp only [eI,lim] at hb;have hc:=C x ho.2 hx (by unfold lim;omega);have hle:=(E.len a ho.2).2;have hr:(aS [x])[0]?=some (cT x):=cS rfl;rw [E.full];generalize a.full=y at *;simp only [cT,T.n,T.kids] at |-;refine aj Tryz.func253 Tryz.ntmps253 ?_;refine aJ (aC 0 8 (.a 8 (aC 9 3 .nil))) ?_;refine au ?_;refine aE [] hc ?_;exact aw
theorem O7 (s:ai) (a b:E) (Ca:lW a) (Cb:lW b):lW (.bin s a b):=by
 intro t ho ht hb;obtain ⟨⟨kk,aa,vv,ss,ks⟩,l⟩:=t;obtain ⟨h1,h2,h3,hl⟩:=ef ht;simp only at h1 h2 h3;subst h1 h2 h3;obtain ⟨x,y,rfl,hx,hy⟩:=BX hl;simp only [E.ok,Bool.and_eq_true] at ho;rw [E.tree,wt] at hb;simp only [eI,lim] at hb;have Ur:=Ca x ho.1.2 hx (by unfold lim;omega);have zd:=Cb y ho.2 hy (by unfold lim;omega);have hle:=(E.len a ho.1.2).2;have Zb:=(E.len b ho.2).2;have hr:(aS [x,y])[0]?=some (cT x):=cS rfl;have dd:(aS [x,y])[1]?=some (cT y):=cS rfl;rw [E.full];generalize a.full=u at *;generalize b.full=w at *;simp only [cT,T.n,T.kids] at |-;refine aj Tryz.func253 Tryz.ntmps253 ?_;refine aJ (aC 0 4 (aC 7 3 (aC 12 4 (.a 4 (.q 5 (.q 6 (.q 10 (.q 11 (.a 16 (aC 17 3 .nil)))))))))) ?_;refine au ?_;refine aE [] Ur ?_;refine aE [] zd ?_;exact aw
mutual
theorem yw:∀ a:E,lW a
 | .num n=>O8 n
 | .name s=>Mo s
 | .at_ s a=>Sq s a (yw a)
 | .call s l=>Mn s l (Mm l)
 | .un s a=>Sr s a (yw a)
 | .bin s a b=>O7 s a b (yw a) (yw b)
theorem Mm:∀ l:List E,∀ a∈l,lW a
 | []=>fun a h=>by cases h
 | b::l=>fun a h=>by
  rcases List.mem_cons.1 h with h | h
  ·rw [h];exact yw b
  ·exact Mm l a h
end
theorem pR (b:Bool) {a:E} (ho:a.ok=true) (hb:wt a.tree<=lim):Jr b a:=by
 cases b with
 | true=>exact (vg a).out ho hb
 | false=>exact (yw a).out ho hb
theorem iY (b:Bool) (a:E) (ho:a.ok=true):(a.out b).length+4<=wt a.tree:=by
 have:=E.len a ho
 cases b with
 | true=>exact this.1
 | false=>exact this.2
end Go.Xg
namespace Go.Xg
open Go.RowKit Go.Xw Go.Proofs
open Go.Xp (Tok Nd T bo one levels Ar cE E S er aP wt eI bG eU)
open Go.Sp
attribute [local irreducible] GW GL GO YG GC GA aY ba
theorem Jd (x:E->Go.Xp.ai):∀ (l:List S) (acc:Go.Xp.ai),acc.length<=(S.cL x acc l).length
 | [],acc=>by rw [S.cL];omega
 | a::l,acc=>by
  rw [S.cL];have:=Jd x l (acc++a.txt x++[32]);simp only [length_append,length_cons,length_nil] at this;omega
def np (b:Bool) (s:S):Prop:=∀ t,s.ok=true->er t=s.tree->wt s.tree<=lim->GF Tryz.prog 190 [.agg (cT t),.v (.bool b)] [] (.v (sv (s.txt (E.out b)))) []
def uJ (b:Bool) (l:List S):Prop:=∀ t,S.cM l=true->er t=bG l->wt (bG l)<=lim->GF Tryz.prog 190 [.agg (cT t),.v (.bool b)] [] (.v (sv (eU (E.out b) l))) []
theorem I0:∀ {ts:List T} {es:List S} (h:aP ts=S.trees es),ts.length=es.length/\∀ (k:Nat) t a,ts[k]?=some t->es[k]?=some a->er t=a.tree
 | [],[],_=>⟨rfl,fun k t a h=>by simp at h⟩
 | [],a::l,h=>by rw [aP,S.trees] at h;cases h
 | t::r,[],h=>by rw [aP,S.trees] at h;cases h
 | t::r,a::l,h=>by
  rw [aP,S.trees] at h
  injection h with h1 h2
  obtain ⟨h3,h4⟩:=I0 h2;refine ⟨by simp [h3],fun k t' a' ht ha=>?_⟩
  cases k with
  | zero=>cases ht;cases ha;exact h1
  | succ k=>exact h4 k t' a' (by simpa using ht) (by simpa using ha)
theorem Gp:∀ {l:List S} {a:S},a∈l->wt a.tree<=eI (S.trees l)
 | [],_,h=>by cases h
 | b::l,a,h=>by
  rw [S.trees,eI]
  rcases List.mem_cons.1 h with rfl | h
  ·omega
  ·have:=Gp h;omega
theorem Gn:∀ l:List S,l.length<=eI (S.trees l)
 | []=>Nat.zero_le _
 | a::l=>by
  have:=Gn l;rw [S.trees,eI,length_cons]
  have:1<=wt a.tree:=by cases a <;> (rw [S.tree,wt];omega)
  omega
theorem Gc:∀ {l:List S} {a:S},S.cM l=true->a∈l->a.ok=true
 | [],_,_,h=>by cases h
 | b::l,a,ho,h=>by
  simp only [S.cM,Bool.and_eq_true] at ho
  rcases List.mem_cons.1 h with rfl | h
  ·exact ho.1
  ·exact Gc ho.2 h
theorem Oz (b:Bool) (s:Go.Xp.ai) (a:E):np b (.var s a):=by
 intro t ho ht hb;obtain ⟨⟨kk,aa,vv,ss,ks⟩,l⟩:=t;obtain ⟨h1,h2,h3,hl⟩:=ef ht;simp only at h1 h2 h3;subst h1 h2 h3;obtain ⟨x0,rfl,ph⟩:=vT hl;simp only [S.ok,Bool.and_eq_true] at ho;rw [S.tree,wt] at hb;simp only [eI,lim] at hb;have pJ:=pR b (a:=a) ho.2 (by unfold lim;omega) x0 ph;have sS:=iY b a ho.2;have rm:(aS [x0])[0]?=some (cT x0):=cS rfl;rw [S.txt];generalize a.out b=y0 at *;simp only [cT,T.n,T.kids];refine aj Tryz.func190 Tryz.ntmps190 ?_;refine aJ (aC 0 10 (.a 10 (aC 11 3 .nil))) ?_;refine au ?_;refine aE [] pJ ?_;exact aw
theorem Oy (b:Bool) (s:Go.Xp.ai) (a:E):np b (.set s a):=by
 intro t ho ht hb;obtain ⟨⟨kk,aa,vv,ss,ks⟩,l⟩:=t;obtain ⟨h1,h2,h3,hl⟩:=ef ht;simp only at h1 h2 h3;subst h1 h2 h3;obtain ⟨x0,rfl,ph⟩:=vT hl;simp only [S.ok,Bool.and_eq_true] at ho;rw [S.tree,wt] at hb;simp only [eI,lim] at hb;have pJ:=pR b (a:=a) ho.2 (by unfold lim;omega) x0 ph;have sS:=iY b a ho.2;have rm:(aS [x0])[0]?=some (cT x0):=cS rfl;rw [S.txt];generalize a.out b=y0 at *;simp only [cT,T.n,T.kids];refine aj Tryz.func190 Tryz.ntmps190 ?_;refine aJ (aC 0 9 (.a 9 (aC 10 3 .nil))) ?_;refine au ?_;refine aE [] pJ ?_;exact aw
theorem Ow (b:Bool) (s:Go.Xp.ai) (a:E) (c:E):np b (.put s a c):=by
 intro t ho ht hb;obtain ⟨⟨kk,aa,vv,ss,ks⟩,l⟩:=t;obtain ⟨h1,h2,h3,hl⟩:=ef ht;simp only at h1 h2 h3;subst h1 h2 h3;obtain ⟨x0,x1,rfl,ph,vc⟩:=BX hl;simp only [S.ok,Bool.and_eq_true] at ho;rw [S.tree,wt] at hb;simp only [eI,lim] at hb;have pJ:=pR b (a:=a) ho.2.1 (by unfold lim;omega) x0 ph;have sS:=iY b a ho.2.1;have rm:(aS [x0,x1])[0]?=some (cT x0):=cS rfl;have sN:=pR b (a:=c) ho.2.2 (by unfold lim;omega) x1 vc;have ff:=iY b c ho.2.2;have gh:(aS [x0,x1])[1]?=some (cT x1):=cS rfl;rw [S.txt];generalize a.out b=y0 at *;generalize c.out b=y1 at *;simp only [cT,T.n,T.kids];refine aj Tryz.func190 Tryz.ntmps190 ?_;refine aJ (aC 0 9 (aC 12 5 (.a 9 (.q 10 (.q 11 (.a 17 (aC 18 3 .nil))))))) ?_;refine au ?_;refine aE [] pJ ?_;refine aE [] sN ?_;exact aw
theorem Ou (b:Bool) (c:E) (p:List S) (Cp:uJ b p):np b (.if1 c p):=by
 intro t ho ht hb;obtain ⟨⟨kk,aa,vv,ss,ks⟩,l⟩:=t;obtain ⟨h1,h2,h3,hl⟩:=ef ht;simp only at h1 h2 h3;subst h1 h2 h3;obtain ⟨x0,x1,rfl,ph,vc⟩:=BX hl;simp only [S.ok,Bool.and_eq_true] at ho;rw [S.tree,wt] at hb;simp only [eI,lim] at hb;have pJ:=pR b (a:=c) ho.1 (by unfold lim;omega) x0 ph;have sS:=iY b c ho.1;have rm:(aS [x0,x1])[0]?=some (cT x0):=cS rfl;have sN:=Cp x1 ho.2 vc (by unfold lim bG;omega);have ff:=Go.Xp.r8 (E.out b) (iY b) ho.2;rw [bG] at ff;have gh:(aS [x0,x1])[1]?=some (cT x1):=cS rfl;rw [S.txt];generalize c.out b=y0 at *
 change GF _ _ _ _ (.v (sv _)) _ at sN
 unfold eU at sN ff;generalize S.cL (E.out b) [123,32] p++[125]=y1 at *;simp only [cT,T.n,T.kids];refine aj Tryz.func190 Tryz.ntmps190 ?_;refine aJ (aC 0 5 (aC 8 5 (.a 5 (.q 6 (.q 7 (.a 13 (.q 14 (.q 15 .nil)))))))) ?_;refine au ?_;refine aE [] pJ ?_;refine aE [] sN ?_;exact aw
theorem Ov (b:Bool) (c:E) (p:List S) (q:List S) (Cp:uJ b p) (Cq:uJ b q):np b (.if2 c p q):=by
 intro t ho ht hb;obtain ⟨⟨kk,aa,vv,ss,ks⟩,l⟩:=t;obtain ⟨h1,h2,h3,hl⟩:=ef ht;simp only at h1 h2 h3;subst h1 h2 h3;obtain ⟨x0,x1,x2,rfl,ph,vc,Io⟩:=Yk hl;simp only [S.ok,Bool.and_eq_true] at ho;rw [S.tree,wt] at hb;simp only [eI,lim] at hb;have pJ:=pR b (a:=c) ho.1 (by unfold lim;omega) x0 ph;have sS:=iY b c ho.1;have rm:(aS [x0,x1,x2])[0]?=some (cT x0):=cS rfl;have sN:=Cp x1 ho.2.1 vc (by unfold lim bG;omega);have ff:=Go.Xp.r8 (E.out b) (iY b) ho.2.1;rw [bG] at ff;have gh:(aS [x0,x1,x2])[1]?=some (cT x1):=cS rfl;have jP:=Cq x2 ho.2.2 Io (by unfold lim bG;omega);have jC:=Go.Xp.r8 (E.out b) (iY b) ho.2.2;rw [bG] at jC;have dd:(aS [x0,x1,x2])[2]?=some (cT x2):=cS rfl;rw [S.txt];generalize c.out b=y0 at *
 change GF _ _ _ _ (.v (sv _)) _ at sN
 unfold eU at sN ff;generalize S.cL (E.out b) [123,32] p++[125]=y1 at *
 change GF _ _ _ _ (.v (sv _)) _ at jP
 unfold eU at jP jC;generalize S.cL (E.out b) [123,32] q++[125]=y2 at *;simp only [cT,T.n,T.kids];refine aj Tryz.func190 Tryz.ntmps190 ?_;refine aJ (aC 0 5 (aC 8 5 (.a 5 (.q 6 (.q 7 (.a 13 (.q 14 (.q 15 .nil)))))))) ?_;refine au ?_;refine aE [] pJ ?_;refine aE [] sN ?_;refine ae ?_;refine ab [] jP ?_;exact al
theorem Hw (b:Bool) (c:E) (p:List S) (Cp:uJ b p):np b (.while_ c p):=by
 intro t ho ht hb;obtain ⟨⟨kk,aa,vv,ss,ks⟩,l⟩:=t;obtain ⟨h1,h2,h3,hl⟩:=ef ht;simp only at h1 h2 h3;subst h1 h2 h3;obtain ⟨x0,x1,rfl,ph,vc⟩:=BX hl;simp only [S.ok,Bool.and_eq_true] at ho;rw [S.tree,wt] at hb;simp only [eI,lim] at hb;have pJ:=pR b (a:=c) ho.1 (by unfold lim;omega) x0 ph;have sS:=iY b c ho.1;have rm:(aS [x0,x1])[0]?=some (cT x0):=cS rfl;have sN:=Cp x1 ho.2 vc (by unfold lim bG;omega);have ff:=Go.Xp.r8 (E.out b) (iY b) ho.2;rw [bG] at ff;have gh:(aS [x0,x1])[1]?=some (cT x1):=cS rfl;rw [S.txt];generalize c.out b=y0 at *
 change GF _ _ _ _ (.v (sv _)) _ at sN
 unfold eU at sN ff;generalize S.cL (E.out b) [123,32] p++[125]=y1 at *;simp only [cT,T.n,T.kids];refine aj Tryz.func190 Tryz.ntmps190 ?_;refine aJ (aC 0 5 (aC 8 5 (.a 5 (.q 6 (.q 7 (.a 13 (.q 14 (.q 15 .nil)))))))) ?_;refine au ?_;refine aE [] pJ ?_;refine aE [] sN ?_;exact aw
theorem Ox (b:Bool) (a:E):np b (.ret a):=by
 intro t ho ht hb;obtain ⟨⟨kk,aa,vv,ss,ks⟩,l⟩:=t;obtain ⟨h1,h2,h3,hl⟩:=ef ht;simp only at h1 h2 h3;subst h1 h2 h3;obtain ⟨x0,rfl,ph⟩:=vT hl;simp only [S.ok] at ho;rw [S.tree,wt] at hb;simp only [eI,lim] at hb;have pJ:=pR b (a:=a) ho (by unfold lim;omega) x0 ph;have sS:=iY b a ho;have rm:(aS [x0])[0]?=some (cT x0):=cS rfl;rw [S.txt];generalize a.out b=y0 at *;simp only [cT,T.n,T.kids];refine aj Tryz.func190 Tryz.ntmps190 ?_;refine ab [] pJ ?_;exact al
theorem QC (b:Bool) (a:E):np b (.do_ a):=by
 intro t ho ht hb;obtain ⟨⟨kk,aa,vv,ss,ks⟩,l⟩:=t;obtain ⟨h1,h2,h3,hl⟩:=ef ht;simp only at h1 h2 h3;subst h1 h2 h3;obtain ⟨x0,rfl,ph⟩:=vT hl;simp only [S.ok] at ho;rw [S.tree,wt] at hb;simp only [eI,lim] at hb;have pJ:=pR b (a:=a) ho (by unfold lim;omega) x0 ph;have sS:=iY b a ho;have rm:(aS [x0])[0]?=some (cT x0):=cS rfl;rw [S.txt];generalize a.out b=y0 at *;simp only [cT,T.n,T.kids];refine aj Tryz.func190 Tryz.ntmps190 ?_;refine ab [] pJ ?_;exact al
theorem rC (b:Bool) (es:List S) (C:∀ a∈es,np b a):uJ b es:=by
 intro t ho ht hb;obtain ⟨⟨kk,aa,vv,ss,ks⟩,l⟩:=t;obtain ⟨h1,h2,h3,hl⟩:=ef ht;simp only at h1 h2 h3;subst h1 h2 h3;obtain ⟨hlen,wT⟩:=I0 hl;have nc:=Go.Xp.r8 (E.out b) (iY b) ho;rw [bG,wt] at hb;rw [bG,wt] at nc;have hn:=Gn es;unfold eU at nc |-;unfold lim at hb;simp only [length_append,length_cons,length_nil] at hb nc;simp only [cT,T.n,T.kids];refine aj Tryz.func190 Tryz.ntmps190 ?_;refine GW.range (aS l).length (fun k fr Γ=>∃ y,fr=[.U,.v (.bool b),.loc 0 0,.U,.U,.U,.v (sv y),.U,.U,.U,.U,.U,.U,.U,.U,.U,.U,.U,.U,.U,.U,.U,.U,.U,.U,.U,.U,.U,.U,.U,.U,.U,.U,.U,.U,.U,.U,.U,.U,.U,.U,.U,.U,.U,.U,.U,.U,.U,.U,.U,.U,.U,.U,.U,.U,.U,.U,.U,.U,.U,.U,.U,.U,.U,.U,.U,.U,.U,.U,.U,.U,.U,.U,.U,.U,.U,.U,.U,.U,.U,.U,.U,.U,.U,.U,.U,.U,.U,.U,.U,.U,.U,.U,.U,.U,.U,.U,.U,.U,.U,.U,.U,.U,.U,.U,.U,.U,.U,.U,.U,.U,.U,.U,.U,.U,.U,.U,.U,.U,.U,.U,.U,.U,.U,.U,.U,.U,.U,.U,.U,.U,.sl 6 (aS l),.v (ii ((aS l).length:Int)),.v (ii (k:Nat)),.U,.U,.U,.U,.U,.U,.U,.U,.U,.U,.U,.U]/\Γ=[.box 94 [.v (ii 14),.v (ii aa),.v (ii 0),.v (sv []),ints ks,.sl 6 (aS l)]]/\S.cL (E.out b) y (es.drop k)=S.cL (E.out b) [123,32] es) ?_ (by rw [aU];omega) ?_ ?_ ?_
 ·exact ⟨_,_,Wk.aD ar,_,rfl,rfl,rfl⟩
 ·rintro k _ _ ⟨y,rfl,rfl,_⟩;exact dO
 ·rintro k _ _ hk ⟨y,rfl,rfl,hy⟩
  have hk:k < es.length:=by rw [aU,hlen] at hk;exact hk
  have wW:k < l.length:=by omega
  have hx:es[k]?=some es[k]:=by simp [hk]
  have ki:l[k]?=some l[k]:=by simp [wW]
  have hr:=cS ki;rw [drop_eq_getElem_cons hk,S.cL] at hy;have hm:=mem_of_getElem? hx;have hc:=C _ hm _ (Gc ho hm) (wT k _ _ ki hx) (by have:=Gp hm;unfold lim;omega);generalize l[k]=t at *;generalize hgx:es[k].txt (E.out b)=x at *;have ly:=Jd (E.out b) (es.drop (k+1)) (y++x++[32]);rw [hy] at ly;simp only [length_append,length_cons,length_nil] at ly;refine ae ?_;refine ab [] hc ?_;exact ⟨rfl,rfl,_,_,(Wk.cut (n:=1) (Nat.le_of_ble_eq_true rfl) rfl).trans (Wk.aD ar),_,rfl,rfl,hy⟩
 ·rintro _ _ ⟨y,rfl,rfl,hy⟩;rw [List.drop_of_length_le (by rw [aU,hlen];exact Nat.le_refl _),S.cL] at hy;subst hy;exact aw
mutual
theorem VY (b:Bool):∀ s:S,np b s
 | .set s a=>Oy b s a
 | .put s a c=>Ow b s a c
 | .if1 c p=>Ou b c p (rC b p (sr b p))
 | .if2 c p q=>Ov b c p q (rC b p (sr b p)) (rC b q (sr b q))
 | .while_ c p=>Hw b c p (rC b p (sr b p))
 | .ret a=>Ox b a
 | .do_ a=>QC b a
 | .var s a=>Oz b s a
theorem sr (b:Bool):∀ l:List S,∀ a∈l,np b a
 | []=>fun a h=>by cases h
 | c::l=>fun a h=>by
  rcases List.mem_cons.1 h with h | h
  ·rw [h];exact VY b c
  ·exact sr b l a h
end
theorem VX (b:Bool) (l:List S):uJ b l:=rC b l (sr b l)
end Go.Xg
namespace Go.Xg
open Go.RowKit Go.Xw Go.Proofs
open Go.Xp (Tok Nd T bo one levels Ar cE E S er aP wt eI bG eU eu)
open Go.Sp
attribute [local irreducible] GW GL GO YG GC GA aY ba
theorem Nb (p:Src) (hp:Bw p) (ls:List (List S)) (hb:D6 p ls):GF Tryz.prog 152 [.agg (ay p)] [] (.v (.bool (ls.all fun l=>eu l 1))) []:=by
 refine aj Tryz.func152 Tryz.ntmps152 ?_;refine GW.range (p.fns.map ax).length (fun k fr Γ=>fr=[.U,.loc 0 0,.U,.U,.U,.U,.U,.U,.sl 3 (p.fns.map ax),.v (ii ((p.fns.map ax).length:Int)),.v (ii (k:Nat)),.U,.U,.U,.U,.U,.U,.U,.U,.U,.U,.U,.U,.U,.U,.U,.U,.U,.U,.U,.U,.U,.U,.U,.U,.U,.U,.U,.U,.U,.U,.U,.U,.U,.U]/\Γ=[.box 34 (ay p)]/\((ls.take k).all fun l=>eu l 1)=true) ?_ (by simpa using by have:=hp.fns.1;omega) ?_ ?_ ?_
 ·exact iF
 ·exact fE
 ·rintro k _ _ hk ⟨rfl,rfl,hf⟩
  have hk:k < p.fns.length:=by simpa using hk
  have eX:k < ls.length:=by rw [hb.len];exact hk
  have hx:p.fns[k]?=some p.fns[k]:=by simp [hk]
  have wY:ls[k]?=some ls[k]:=by simp [eX]
  have hr:=Bo hx;obtain ⟨h0,ho,hw,t,pN,her⟩:=hb.at_ k _ _ hx wY;have hs:=D4 p (fun n hn=>(hp.nodes.2 n hn).2) _ _ _ pN;rw [Int.toNat_of_nonneg h0] at hs;have Ft:=VX true ls[k] t ho her (by unfold lim;omega);obtain ⟨ts,t2,q,f,h1,h2,h3,h4,h5,h6,h7⟩:=RY ho hw;have ki:=Nc _ ts ah h1;have hmp:RS.ok ⟨ts,0,(eU E.txt ls[k]).length,0,0⟩:=⟨Nat.zero_le _,by simp only;omega⟩;have dA:=(sds f).block 1 _ t2 q hmp ah h5
  have kJ:(E.out true)=E.txt:=by funext a;rfl
  rw [kJ] at Ft;generalize eU E.txt ls[k]=tx at *;generalize uA:eu ls[k] 1=fit at *;generalize p.fns[k]=x at *
  rcases h7 with ⟨h7,h8,rfl⟩ | ⟨h7,rfl⟩
  ·have sN:(q.code != 0)=false:=by simpa using h7
   have jP:((q.i:Int) != ((q.l.map c7).length:Int))=false:=by rw [length_map,h6];simp [h8]
   refine ae ?_;refine ab [] hs ?_;refine ab [] Ft ?_;refine ab [] ki ?_;refine ab [2] dA ?_;refine aJ (aC 0 17 .nil) ?_;refine bg ?_;exact ⟨rfl,rfl,_,_,(Wk.cut (n:=1) (Nat.le_of_ble_eq_true rfl) rfl).trans (Wk.aD ar),rfl,rfl,sD wY hf uA⟩
  ·have sN:(q.code != 0)=true:=by simpa using h7
   have aM:(ls.all fun l=>eu l 1)=false:=uL wY uA;rw [aM];refine ae ?_;refine ab [] hs ?_;refine ab [] Ft ?_;refine ab [] ki ?_;refine ab [2] dA ?_;refine aJ (aC 0 17 .nil) ?_;refine au ?_;exact aw
 ·rintro _ _ ⟨rfl,rfl,hf⟩;rw [take_of_length_le (by rw [length_map,hb.len];exact Nat.le_refl _)] at hf;rw [hf];exact aw
theorem Lg (p:Src) (hp:Bw p) (h:nW p=some false):GF Tryz.prog 129 [.agg (ay p)] [] (.v (.bool false)) []:=by
 have hs:=Be p hp false h;refine aj Tryz.func129 Tryz.ntmps129 ?_;refine ab [] hs ?_;exact al
theorem Lj (p:Src) (hp:Bw p) (h:nW p=some true) (ls:List (List S)) (hb:D6 p ls):GF Tryz.prog 129 [.agg (ay p)] [] (.v (.bool (ls.all fun l=>eu l 1))) []:=by
 have hs:=Be p hp true h;have hf:=Nb p hp ls hb;generalize (ls.all fun l=>eu l 1)=b at *;refine aj Tryz.func129 Tryz.ntmps129 ?_;refine ab [] hs ?_;refine ab [] hf ?_;exact al
end Go.Xg
namespace Go.Xg
open Go.RowKit Go.Xw Go.Proofs
open Go.Xp (Tok Nd T levels Ar E S er wt bG eU eu)
open Go.Sp
open Go.Im
attribute [local irreducible] GW GL GO YG GC GA aY ba
theorem Tb {p:Src} (hw:dB p<=1048576):Bw p:=by
 obtain ⟨⟨a1,a2⟩,⟨b1,b2⟩,⟨c1,c2⟩,⟨d1,d2⟩⟩:=fg p;exact ⟨⟨by omega,fun s hs=>by have:=a2 s hs;omega⟩,⟨by omega,fun s hs=>by have:=b2 s hs;omega⟩,⟨by omega,fun f hf=>by obtain ⟨e1,e2,e3⟩:=c2 f hf;exact ⟨by omega,by omega,fun s hs=>by have:=e3 s hs;omega⟩⟩,⟨by omega,fun n hn=>by obtain ⟨e1,e2⟩:=d2 n hn;exact ⟨by omega,by omega⟩⟩⟩
theorem Lh (p:Src) (hw:dB p<=1048576):GF Tryz.prog 129 [.agg (ay p)] [] (.v (.bool (fI p))) []:=by
 have iU:=Tb hw;obtain ⟨b,hb⟩:=KO p
 cases b with
 | false=>rw [Yo hb];exact Lg p iU hb
 | true =>
  obtain ⟨l,hl⟩:=Td hb;obtain ⟨ls,hf⟩:=hl.JI;rw [Yp hl hf];exact Lj p iU hb ls (LC hl hf hw)
end Go.Xg
namespace Go.Xg
open Go.RowKit Go.Xw Go.Proofs
open Go.Xp (Tok Nd T)
open Go.Sp (Src)
open Go.Im (od qc tr jj cV fP uB)
attribute [local irreducible] GW GL GO YG GC GA aY ba
mutual
def tT:T->GV
 | .mk n l=>.box [.v (ii n.kind),.v (ii n.at_),.v (ii n.n),.v (sv n.s),ints n.kids,.sl 1 (cm l)] 0
def cm:List T->List (List GV)
 | []=>[]
 | t::r=>[tT t]::cm r
end
abbrev uT (t:T):GV:=.box [.v (ii t.n.kind),.v (ii t.n.at_),.v (ii t.n.n),.v (sv t.n.s),ints t.n.kids,.sl 1 (cm t.kids)] 0
theorem Xi (t:T):tT t=uT t:=by cases t;rw [tT];rfl
theorem kx (l:List T):cm l=l.map fun t=>[uT t]:=by
 induction l with
 | nil=>rfl
 | cons t l ih=>rw [cm,ih,Xi];rfl
theorem qG (l:List T):(cm l).length=l.length:=by rw [kx];simp
theorem I8 (l:List T) (t:T):cm (l++[t])=cm l++[[uT t]]:=by rw [kx,kx];simp
theorem vr {l:List T} {i:Nat} {t:T} (h:l[i]?=some t):(cm l)[i]?=some [uT t]:=by rw [kx,getElem?_map,h];rfl
def trG:Option (T × Nat)->GV
 | none=>.tup [.U,.U,.v (.bool false)]
 | some (t,e)=>.tup [uT t,.v (ii (e:Nat)),.v (.bool true)]
theorem Qs (nodes:List Nd) (hl:nodes.length<=1099511627776) (hk:∀ n∈nodes,n.kids.length<=1099511627776):∀ (f a:Nat),nodes.length - a+1<=f->a<=1099511627776 ->
  GF Tryz.prog 193 [.sl 5 (nodes.map az),.v (ii (a:Nat))] [] (trG (od nodes f a)) []:=by
 intro f
 induction f with
 | zero=>intro a h;omega
 | succ f ih =>
 intro a hf ha;rw [od]
 cases hn:nodes[a]? with
 | none =>
  have ly:nodes.length<=a:=List.getElem?_eq_none_iff.1 hn
  have hd:decide (((nodes.map az).length:Int)<=(a:Int))=true:=by simpa using ly
  refine aj Tryz.func193 Tryz.ntmps193 ?_;refine qK ?_;exact ⟨_,jg,rfl,rfl⟩
 | some n =>
  have ao:=(List.getElem?_eq_some_iff.1 hn).1
  have hd:decide (((nodes.map az).length:Int)<=(a:Int))=false:=by simpa using ao
  have hr:(nodes.map az)[a]?=some (az n):=by rw [getElem?_map,hn];rfl
  have xH:=hk n (mem_of_getElem? hn);simp only;generalize hR:qc (od nodes f) n.kids (a+1) []=R;refine aj Tryz.func193 Tryz.ntmps193 ?_;refine GW.wk (Wk.Kp (i:=0) (o:=5) 152 1 rfl rfl) ?_
  refine GW.range (n.kids.map fun i=>[GV.v (ii i)]).length (fun k fr Γ=>∃ next acc m rows,fr=[.sl 5 (nodes.map az),.v (ii (a:Nat)),.U,.U,.U,.U,.U,.loc 0 0,.v (ii (next:Nat)),.U,.U,.U,.U,.U,.U,.U,.U,.U,.U,.U,.U,.U,.U,.U,.U,.U,.U,.U,.U,.U,ints n.kids,.v (ii ((n.kids.map fun i=>[GV.v (ii i)]).length:Int)),.v (ii (k:Nat)),.U,.U,.U,.U,.U,.U,.U,.U,.U,.U,.U,.U,.U,.U,.U,.U,.U,.U,.U,.U,.U,.U,.U,.U,.U,.U,.U,.U,.U,.U,.U,.U,.U,.U,.U] /\
   Γ=[.box 190 [.v (ii n.kind),.v (ii n.at_),.v (ii n.n),.v (sv n.s),ints n.kids,.vec 1 m],.vec 152 1 0 rows]/\rows.length=m/\rows=cm acc/\m=k/\a+1<=next/\next<=nodes.length/\qc (od nodes f) (n.kids.drop k) next acc=R) ?_ (by simpa using xH) ?_ ?_ ?_
  ·exact ⟨_,_,Wk.aD ar,a+1,[],0,[],rfl,rfl,rfl,rfl,rfl,Nat.le_refl _,ao,hR⟩
  ·rintro k _ _ ⟨next,acc,m,rows,rfl,rfl,_⟩;exact dO
  ·rintro k _ _ eX ⟨next,acc,m,rows,rfl,rfl,hm,bz,sT,Ih,rl,h⟩
   have eX:k < n.kids.length:=by simpa using eX
   have b6:n.kids[k]?=some n.kids[k]:=by simp [eX]
   have sR:(n.kids.map fun i=>[GV.v (ii i)])[k]?=some [.v (ii n.kids[k])]:=by rw [getElem?_map,b6];rfl
   rw [drop_eq_getElem_cons eX,qc] at h;generalize n.kids[k]=z at *
   by_cases hz:z=(next:Int)
   ·rw [if_pos hz] at h;subst hz
    have XY:((next:Int) != (next:Int))=false:=by simp
    have C7:=ih next ah ah
    cases hq:od nodes f next with
    | none =>
     rw [hq] at h C7;subst h;refine ae ?_;refine ab [] C7 ?_;refine qK ?_;exact ⟨_,jg,rfl,rfl⟩
    | some x =>
     obtain ⟨t,e⟩:=x;rw [hq] at h C7;simp only at h
     obtain ⟨s1,s2,_,_⟩:=Go.Im.Am f next t e hq
     refine ae ?_;refine ab [] C7 ?_;refine eR ?_;refine ae ?_;exact ⟨rfl,rfl,_,_,Wk.aD ar,e,acc++[t],_,_,rfl,rfl,by simp [hm],by rw [I8,bz],by omega,by omega,s2,h⟩
   ·rw [if_neg hz] at h;subst h
    have XY:(z != (next:Int))=true:=by simpa using hz
    refine ae ?_;refine qK ?_;exact ⟨_,jg,rfl,rfl⟩
  ·rintro _ _ ⟨next,acc,m,rows,rfl,rfl,hm,bz,sT,Ih,rl,h⟩;rw [show n.kids.drop (n.kids.map fun i=>[GV.v (ii i)]).length=[] by simp,qc] at h;subst h;simp only;subst bz;refine be ?_;refine GW.wk (Wk.yL (i:=0) (o:=5) (j:=1) rfl rfl rfl rfl hm) ?_
   by_cases h0:n.at_ < 0
   ·rw [if_pos h0]
    have sM:decide ((0:Int)<=n.at_)=false:=by simpa using h0
    refine ae ?_;refine aJ (aC 0 11 .nil) ?_;refine bg ?_;rw [sM];refine GW.wk (Wk.freeze (i:=0) rfl rfl rfl (Nat.le_refl _)) ?_;refine qK ?_;exact ⟨_,jg,rfl,rfl⟩
   ·rw [if_neg h0]
    have sM:decide ((0:Int)<=n.at_)=true:=by simpa using h0
    refine ae ?_;refine aJ (aC 0 11 .nil) ?_;refine bg ?_;rw [sM];refine GW.wk (Wk.freeze (i:=0) rfl rfl rfl (Nat.le_refl _)) ?_;refine Je ?_;exact ⟨rfl,rfl⟩
def BO (nodes:List Nd):Option (List T × Nat)->GV
 | none=>.tup [.U,.v (.bool false)]
 | some (l,e)=>.tup [.sl 1 (cm l),.v (.bool ((e:Int)==(nodes.length:Int)))]
theorem vM (p:Src) (hl:p.nodes.length<=1099511627776) (hk:∀ n∈p.nodes,n.kids.length<=1099511627776) (hf:p.fns.length<=1099511627776) :
  GF Tryz.prog 155 [.agg (ay p)] [] (BO p.nodes (jj p.nodes p.fns 0 [])) []:=by
 generalize hR:jj p.nodes p.fns 0 []=R;refine aj Tryz.func155 Tryz.ntmps155 ?_;refine GW.wk (Wk.Ci (t:=4) (a:=none) (c:=0) 152 1 rfl) ?_
 refine GW.range (p.fns.map ax).length (fun k fr Γ=>∃ next acc m rows,fr=[.U,.loc 0 0,.U,.U,.vec 1 m,.v (ii (next:Nat)),.U,.U,.U,.U,.U,.U,.sl 3 (p.fns.map ax),.v (ii ((p.fns.map ax).length:Int)),.v (ii (k:Nat)),.U,.U,.U,.U,.U,.U,.U,.U,.U,.U,.U,.U,.U,.U,.U,.U,.U,.U,.U,.U,.U,.U,.U,.U,.U,.U,.U,.U,.U,.U,.U] /\
  Γ=[.box 34 (ay p),.vec 152 1 0 rows]/\rows.length=m/\rows=cm acc/\m=k/\next<=p.nodes.length/\jj p.nodes (p.fns.drop k) next acc=R) ?_ (by simpa using hf) ?_ ?_ ?_
 ·exact ⟨_,_,Wk.aD ar,0,[],0,[],rfl,rfl,rfl,rfl,rfl,Nat.zero_le _,hR⟩
 ·rintro k _ _ ⟨next,acc,m,rows,rfl,rfl,_⟩;exact dO
 ·rintro k _ _ eX ⟨next,acc,m,rows,rfl,rfl,hm,bz,sT,rl,h⟩
  have eX:k < p.fns.length:=by simpa using eX
  have b6:p.fns[k]?=some p.fns[k]:=by simp [eX]
  have sR:(p.fns.map ax)[k]?=some (ax p.fns[k]):=by rw [getElem?_map,b6];rfl
  rw [drop_eq_getElem_cons eX,jj] at h;generalize p.fns[k]=fn at *
  have MU:=Qs p.nodes hl hk (p.nodes.length+1) next ah ah
  unfold tr at h
  cases hq:od p.nodes (p.nodes.length+1) next with
  | none =>
   rw [hq] at h MU;subst h;refine ae ?_;refine ab [] MU ?_;refine Gv ?_;exact ⟨_,jg,rfl,rfl⟩
  | some x =>
   obtain ⟨t,e⟩:=x;rw [hq] at h MU;simp only at h
   obtain ⟨s1,s2,_,_⟩:=Go.Im.Am _ next t e hq
   by_cases hb:fn.body=(next:Int)
   ·rw [if_pos hb] at h
    have bt:(fn.body != (next:Int))=false:=by simpa using hb
    refine ae ?_;refine ab [] MU ?_;refine eR ?_;refine ae ?_;exact ⟨rfl,rfl,_,_,(Wk.cut (n:=2) (Nat.zero_le _) rfl).trans (Wk.aD ar),e,acc++[t],_,_,rfl,rfl,by simp [hm],by rw [I8,bz],by omega,s2,h⟩
   ·rw [if_neg hb] at h;subst h
    have bt:(fn.body != (next:Int))=true:=by simpa using hb
    refine ae ?_;refine ab [] MU ?_;refine Gv ?_;exact ⟨_,jg,rfl,rfl⟩
 ·rintro _ _ ⟨next,acc,m,rows,rfl,rfl,hm,bz,sT,rl,h⟩;rw [show p.fns.drop (p.fns.map ax).length=[] by simp,jj] at h;subst h;subst bz;refine be ?_;refine GW.wk (Wk.jy (t:=4) rfl rfl rfl hm) ?_
  have UG:p.nodes.length=(p.nodes.map az).length:=by simp
  unfold BO;rw [UG];refine ae ?_;refine aJ (aC 0 8 .nil) ?_;refine au ?_;exact qJ
end Go.Xg
namespace Go.Xg
open Go.RowKit Go.Xw Go.Proofs
open Go.Xp (Tok Nd T bo one levels gw dL ei du db)
open Go.Sp
attribute [local irreducible] GW GL GO YG GC GA aY ba
structure PX where
 a:Value
 b:Value
 c:Value
 d:Value
 e:Value
abbrev bK (p:RS) (x:PX):Ob:=.box 208 [iz p.l,.v (ii p.i),.v (ii p.e),.v (ii p.code),.v (ii p.at_),.v x.a,.v x.b,.v x.c,.v x.d,.v x.e]
theorem qW (p:RS) (k:Nat) (x:PX) (hp:p.ok) (hk:k<=1):GF Tryz.prog 241 [.loc 0 0,.v (ii (k:Nat))] [bK p x] (.agg (c7 (Go.Im.tok p k))) [bK p x]:=by
 obtain ⟨lC,dH⟩:=hp;unfold Go.Im.tok
 cases ht:p.l[p.i+k]? with
 | some t =>
  have hr:=ku ht;have ao:p.i+k < p.l.length:=(List.getElem?_eq_some_iff.1 ht).1
  have hd:decide (((p.l.map c7).length:Int)<=((p.i+k:Nat):Int))=false:=by simpa using by omega
  refine aj Tryz.func241 Tryz.ntmps241 ?_;refine aJ (aC 0 12 .nil) ?_;refine bg ?_;refine aJ (aC 0 12 (.a 12 .nil)) ?_;refine au ?_;exact o7
 | none =>
  have ao:p.l.length<=p.i+k:=List.getElem?_eq_none_iff.1 ht
  have hd:decide (((p.l.map c7).length:Int)<=((p.i+k:Nat):Int))=true:=by simpa using by omega
  refine aj Tryz.func241 Tryz.ntmps241 ?_;refine aJ (aC 0 12 .nil) ?_;refine au ?_;exact o7
theorem EH (p:RS) (c a:Int) (x:PX):GF Tryz.prog 270 [.loc 0 0,.v (ii c),.v (ii a)] [bK p x] (.tup []) [bK (p.fail c a) x]:=by
 unfold RS.fail
 by_cases h:p.code=0
 ·have h':(p.code==0)=true:=by simpa using h
  rw [if_pos h];refine aj Tryz.func270 Tryz.ntmps270 ?_;exact fX
 ·have h':(p.code==0)=false:=by simpa using h
  rw [if_neg h];refine aj Tryz.func270 Tryz.ntmps270 ?_;exact fX
theorem yP (p:RS) (x:PX) (hp:p.ok):GF Tryz.prog 242 [.loc 0 0] [bK p x] (.tup []) [bK (Go.Im.kg p) x]:=by
 have ht:=qW p 0 x hp aK;unfold Go.Im.kg;generalize Go.Im.tok p 0=t at *;have hf:=EH p 7 t.at_ x;refine aj Tryz.func242 Tryz.ntmps242 ?_;refine ab [0] ht ?_;refine ab [0] hf ?_;exact fX
theorem vS (p:RS) (d:Nat) (x:PX) (hp:p.ok):GF Tryz.prog 272 [.loc 0 0,.v (ii (d:Nat))] [bK p x] (.v (.bool ((Go.Im.bL p d).code==0))) [bK (Go.Im.bL p d) x]:=by
 have ht:=qW p 0 x hp aK;unfold Go.Im.bL;generalize Go.Im.tok p 0=t at *
 by_cases h:d > 60
 ·have h':decide ((60:Int) < (d:Int))=true:=by simpa using by omega
  rw [if_pos h];have hf:=EH p 9 t.at_ x;generalize p.fail 9 t.at_=q at *;refine aj Tryz.func272 Tryz.ntmps272 ?_;refine ab [0] ht ?_;refine ab [0] hf ?_;exact al
 ·have h':decide ((60:Int) < (d:Int))=false:=by simpa using by omega
  rw [if_neg h];refine aj Tryz.func272 Tryz.ntmps272 ?_;exact al
theorem jU (p:RS) (k:Nat) (s:ai) (x:PX) (hp:p.ok) (hk:k<=1):GF Tryz.prog 239 [.loc 0 0,.v (ii (k:Nat)),.v (sv s)] [bK p x] (.v (.bool (Go.Im.is p k s))) [bK p x]:=by
 have ht:=qW p k x hp hk;unfold Go.Im.is;generalize Go.Im.tok p k=t at *
 cases h:(t.kind==3) with
 | true =>
  rw [Bool.true_and];refine aj Tryz.func239 Tryz.ntmps239 ?_;refine ab [0] ht ?_;exact al
 | false =>
  rw [Bool.false_and];refine aj Tryz.func239 Tryz.ntmps239 ?_;refine ab [0] ht ?_;exact al
theorem qA (p:RS) (x:PX) (hp:p.ok):GF Tryz.prog 240 [.loc 0 0] [bK p x] (.v (sv (Go.Im.tok p 0).s)) [bK (Go.Im.br p) x]:=by
 have ht:=qW p 0 x hp aK;have hw:=yP p x hp;have UM:=hp.2;have Dc:=hp.1;unfold Go.Im.br;generalize Go.Im.tok p 0=t at *;have hf:=EH p 8 t.at_ x
 by_cases hc:p.code=0
 ·have dq:(p.code != 0)=false:=by simpa using hc
  rw [if_pos hc]
  by_cases h2:t.kind=2
  ·have qh:(t.kind != 2)=false:=by simpa using h2
   rw [if_pos h2]
   by_cases hl:t.s.length > 12
   ·have iM:decide ((12:Int) < (t.s.length:Int))=true:=by simpa using by omega
    rw [if_pos hl];refine aj Tryz.func240 Tryz.ntmps240 ?_;refine ab [0] ht ?_;refine ab [0] hf ?_;exact al
   ·have iM:decide ((12:Int) < (t.s.length:Int))=false:=by simpa using by omega
    rw [if_neg hl];refine aj Tryz.func240 Tryz.ntmps240 ?_;refine ab [0] ht ?_;exact al
  ·have qh:(t.kind != 2)=true:=by simpa using h2
   rw [if_neg h2];refine aj Tryz.func240 Tryz.ntmps240 ?_;refine ab [0] ht ?_;refine ab [0] hw ?_;exact al
 ·have dq:(p.code != 0)=true:=by simpa using hc
  rw [if_neg hc];refine aj Tryz.func240 Tryz.ntmps240 ?_;refine ab [0] ht ?_;exact al
theorem eO (p:RS) (s:ai) (x:PX) (hp:p.ok):GF Tryz.prog 243 [.loc 0 0,.sl 1 [[.v (sv s)]]] [bK p x] (.tup []) [bK (Go.Im.want p s) x]:=by
 have hi:=jU p 0 s x hp aK;have hw:=yP p x hp;have UM:=hp.2;have Dc:=hp.1;unfold Go.Im.want;generalize Go.Im.kg p=q at *;have hr:([[GV.v (sv s)]]:List (List GV))[0]?=some [.v (sv s)]:=rfl;refine aj Tryz.func243 Tryz.ntmps243 ?_
 by_cases hc:p.code=0
 ·have dq:(p.code != 0)=false:=by simpa using hc
  rw [if_pos hc]
  cases h:Go.Im.is p 0 s with
  | true =>
   rw [h] at hi;rw [if_pos rfl];refine GW.range 1 (fun k fr Γ=>fr=[.loc 0 0,.U,.U,.U,.U,.U,.sl 1 [[.v (sv s)]],.v (ii ((1:Nat):Int)),.v (ii (k:Nat)),.U,.U,.U,.U,.U,.U,.U,.U,.U,.U,.U,.U,.U,.U,.U,.U,.U,.U,.U,.U,.U,.U]/\((k=0/\Γ=[bK p x])\/(1<=k/\Γ=[bK p.next x]))) ?_ aK ?_ ?_ ?_
   ·exact ⟨_,_,Wk.aD ar,rfl,.inl ⟨rfl,rfl⟩⟩
   ·rintro k _ _ ⟨rfl,_⟩;exact dO
   ·rintro k _ _ hk ⟨rfl,⟨rfl,rfl⟩ | ⟨h1,_⟩⟩
    ·refine ae ?_;refine ab [0] hi ?_;exact ⟨rfl,rfl,_,_,Wk.aD ar,rfl,.inr ⟨Nat.le_refl _,rfl⟩⟩
    ·omega
   ·rintro _ _ ⟨rfl,⟨h1,_⟩ | ⟨_,rfl⟩⟩
    ·cases h1
    ·exact mf
  | false =>
   rw [h] at hi;rw [if_neg aK];refine GW.range 1 (fun k fr Γ=>fr=[.loc 0 0,.U,.U,.U,.U,.U,.sl 1 [[.v (sv s)]],.v (ii ((1:Nat):Int)),.v (ii (k:Nat)),.U,.U,.U,.U,.U,.U,.U,.U,.U,.U,.U,.U,.U,.U,.U,.U,.U,.U,.U,.U,.U,.U]/\k=0/\Γ=[bK p x]) ?_ aK ?_ ?_ ?_
   ·exact iF
   ·rintro k _ _ ⟨rfl,_⟩;exact dO
   ·rintro k _ _ hk ⟨rfl,rfl,rfl⟩;refine ae ?_;refine ab [0] hi ?_;refine ab [0] hw ?_;exact fX
   ·rintro _ _ ⟨rfl,h1,_⟩;cases h1
 ·have dq:(p.code != 0)=true:=by simpa using hc
  rw [if_neg hc];refine GW.range 1 (fun k fr Γ=>fr=[.loc 0 0,.U,.U,.U,.U,.U,.sl 1 [[.v (sv s)]],.v (ii ((1:Nat):Int)),.v (ii (k:Nat)),.U,.U,.U,.U,.U,.U,.U,.U,.U,.U,.U,.U,.U,.U,.U,.U,.U,.U,.U,.U,.U,.U]/\k=0/\Γ=[bK p x]) ?_ aK ?_ ?_ ?_
  ·exact iF
  ·rintro k _ _ ⟨rfl,_⟩;exact dO
  ·rintro k _ _ hk ⟨rfl,rfl,rfl⟩;exact mf
  ·rintro _ _ ⟨rfl,h1,_⟩;cases h1
end Go.Xg
namespace Go.Xg
open Go.RowKit Go.Xw Go.Proofs
open Go.Xp (Tok Nd T bo one levels)
open Go.Sp
attribute [local irreducible] GW GL GO YG GC GA aY ba
mutual
def pT:T->GV
 | .mk n l=>.box [.v (ii n.kind),.v (ii n.at_),.v (ii n.n),.v (sv n.s),.v (.slice none 0 0),.sl 1 (kl l)] 0
def kl:List T->List (List GV)
 | []=>[]
 | t::r=>[pT t]::kl r
end
abbrev qT (t:T):GV:=.box [.v (ii t.n.kind),.v (ii t.n.at_),.v (ii t.n.n),.v (sv t.n.s),.v (.slice none 0 0),.sl 1 (kl t.kids)] 0
theorem Xd (t:T):pT t=qT t:=by cases t;rw [pT];rfl
theorem gm (l:List T):kl l=l.map fun t=>[qT t]:=by
 induction l with
 | nil=>rfl
 | cons t l ih=>rw [kl,ih,Xd];rfl
theorem mM (l:List T):(kl l).length=l.length:=by rw [gm];simp
theorem vn (l:List T) (t:T):kl (l++[t])=kl l++[[qT t]]:=by rw [gm,gm];simp
theorem Bp {l:List T} {i:Nat} {t:T} (h:l[i]?=some t):(kl l)[i]?=some [qT t]:=by rw [gm,getElem?_map,h];rfl
theorem NB (k a:Int) (s:ai) (rows:List (List GV)):GF Tryz.prog 271 [.v (ii k),.v (ii a),.v (sv s),.sl 1 rows] [] (.loc 0 0) [.box 190 [.v (ii k),.v (ii a),.v (ii 0),.v (sv s),.v (.slice none 0 0),.sl 1 rows]]:=by
 refine aj Tryz.func271 Tryz.ntmps271 ?_;refine GW.wk (Wk.cells 0 rfl (ds:=[.v (ii k),.v (ii a),.v (ii 0),.v (sv s),.v (.slice none 0 0),.sl 1 rows]) jg) ?_;refine GW.ret ?_;refine rG (n:=1) rfl cy rfl (Nat.zero_le _) rfl rfl ?_;exact ⟨rfl,rfl⟩
theorem ew (k a:Int) (s:ai) (l:List T) (rows:List (List GV)) (h:kl l=rows):GF Tryz.prog 271 [.v (ii k),.v (ii a),.v (sv s),.sl 1 rows] [] (qT (one k a s l)) []:=by
 subst h;refine aj Tryz.func271 Tryz.ntmps271 ?_;refine GW.wk (Wk.cells 0 rfl (ds:=[.v (ii k),.v (ii a),.v (ii 0),.v (sv s),.v (.slice none 0 0),.sl 1 (kl l)]) jg) ?_;refine GW.wk (Wk.freeze (i:=0) rfl rfl rfl (Nat.zero_le _)) ?_;exact al
theorem tg:GF Tryz.prog 233 [] [] (.sl 1 (levels.map fun l=>[strs l])) []:=by
 refine aj Tryz.func233 Tryz.ntmps233 ?_
 iterate 10 (refine bS ?_)
 exact aw
end Go.Xg
namespace Go.Xg
open Go.RowKit Go.Xw Go.Proofs
open Go.Xp (Tok Nd T levels cE bD aR aB)
open Go.Im (nT ru tN lr cP fA tD jH fO oY pS)
attribute [local irreducible] GW GL GO YG GC GA aY ba
theorem decDigits_eq (n:Nat):Go.Lib.decDigits n=cE n:=by
 induction n using Nat.strongRecOn with
 | _ n ih =>
  unfold Go.Lib.decDigits cE;split
  ·rfl
  ·rw [ih (n / 10) ah]
theorem SB (n:Int):Go.Lib.itoa n=nT n:=by
 unfold Go.Lib.itoa nT;rw [decDigits_eq,decDigits_eq]
theorem Lm (n:Int) (h0 : -9223372036854775808<=n) (h1:n<=9223372036854775807):GF Tryz.prog 195 [.v (ii n)] [] (.v (sv (nT n))) []:=by
 refine GF.Vi (vs:=[ii n]) fun K β w ht hf=>?_
 obtain ⟨E,z,ln⟩:=sA.all ht hf ht.pow (zs:=vo.map fun z=>Value.int .u64 z) aK (fun m o x hx=>by
  rw [getElem?_map] at hx;unfold xd;rw [if_neg aK,if_pos rfl]
  cases hs:vo[o]? with
  | none=>rw [hs] at hx;cases hx
  | some y=>rw [hs] at hx;cases hx;rfl)
 have zS:Go.Lib.TabIs Tryz.prog w "internal/strconv.uint64pow10" .u64 Go.Lib.pow10Tab:=by
  unfold Go.Lib.TabIs World.var?;rw [show Tryz.prog.globalNamed "internal/strconv.uint64pow10" = some 3 by kernel_rfl,show Go.Lib.pow10Tab=vo by decide];simp only [Option.bind_some,ln]
 refine mi.po (Calls.mono (Tryz.strconv_Itoa n h0 h1 w zS) ?_);rintro e w' ⟨h2,k,os,h3⟩;refine ⟨_,h2,by rw [SB];rfl,?_⟩;subst h3;refine ⟨rfl,rfl,rfl,by simp [Go.Sort.grow,World.drewN],fun j hj _=>?_⟩;simp only [Go.Sort.grow,World.drewN];rw [Array.getElem?_append_left hj]
theorem PO (l:List ai) (s:ai) (hl:l.length<=1099511627776):GF Tryz.prog 234 [strs l,.box [.v (sv s)] 0] [] (.v (.bool (l.contains s))) []:=by
 have h:=ky l s hl;generalize l.contains s=b at *;refine aj Tryz.func234 Tryz.ntmps234 ?_;refine ab [] h ?_;exact al
def B8 (ls:List (List ai)) (s:ai):Int:=match ls.findIdx? (fun l=>l.contains s) with | some i=>(i:Int) | none => -1
theorem GR (ls:List (List ai)) (s:ai) (hn:ls.length<=1099511627776) (hl:∀ l∈ls,l.length<=1099511627776) :
  GF Tryz.prog 232 [.sl 1 (ls.map fun l=>[strs l]),.fn (.func 234) [] [.box [.v (sv s)] 0]] [] (.v (ii (B8 ls s))) []:=by
 have dh:(ls.map fun l=>[strs l]).length=ls.length:=by simp
 refine aj Tryz.func232 Tryz.ntmps232 ?_;refine GW.range (ls.map fun l=>[strs l]).length (fun k fr Γ=>fr=[.sl 1 (ls.map fun l=>[strs l]),.fn (.func 234) [] [.box [.v (sv s)] 0],.U,.U,.U,.U,.U,.v (ii ((ls.map fun l=>[strs l]).length:Int)),.v (ii (k:Nat)),.U,.U,.U,.U,.U,.U,.U,.U,.U,.U]/\Γ=[]/\(ls.take k).all (fun l=>!(l.contains s))=true) ?_ ah ?_ ?_ ?_
 ·exact iF
 ·exact fE
 ·rintro k _ _ ao ⟨rfl,rfl,aM⟩;rw [dh] at ao
  have b6:ls[k]?=some ls[k]:=by simp [ao]
  have hr:(ls.map fun l=>[strs l])[k]?=some [strs ls[k]]:=by rw [getElem?_map,b6];rfl
  have hc:=PO ls[k] s (hl _ (getElem_mem ao))
  have bh:(ls.take (k+1)).all (fun l=>!(l.contains s))=((ls.take k).all (fun l=>!(l.contains s))&&!(ls[k].contains s)):=by rw [take_add_one,b6,all_append];simp
  have ze:ls[k].contains s=true->B8 ls s=(k:Int):=fun h0=>by
   have:ls.findIdx? (fun l=>l.contains s)=some k:=by
    rw [List.findIdx?_eq_some_iff_getElem];refine ⟨ao,h0,fun j hj=>?_⟩;rw [all_eq_true] at aM;have:=aM ls[j] (by rw [List.mem_take_iff_getElem];exact ⟨j,by omega,rfl⟩);simpa using this
   unfold B8;rw [this]
  generalize ls[k]=l at *
  cases hb:l.contains s with
  | true =>
   rw [hb] at hc;rw [ze hb];refine ae ?_;refine gM [] hc ?_;exact aw
  | false =>
   rw [hb] at hc bh;refine ae ?_;refine gM [] hc ?_;refine ae ?_;exact ⟨rfl,rfl,_,_,Wk.aD ar,rfl,rfl,by rw [bh,aM];rfl⟩
 ·rintro _ _ ⟨rfl,rfl,aM⟩;rw [dh,take_length] at aM
  have:ls.findIdx? (fun l=>l.contains s)=none:=by
   rw [List.findIdx?_eq_none_iff];intro x hx;rw [all_eq_true] at aM;simpa using aM x hx
  unfold B8;rw [this];exact aw
theorem Dr (s:ai):GF Tryz.prog 200 [.v (sv s)] [] (.v (ii (ru s))) []:=by
 have h1:=tg;have h2:=GR levels s aK aK;rw [show ru s=B8 levels s from rfl];generalize B8 levels s=z at *;generalize levels=ls at *;refine aj Tryz.func200 Tryz.ntmps200 ?_;refine GL.wk (Wk.freeze (i:=0) rfl rfl rfl (Nat.le_refl _)) ?_;refine GN (by simp only [om,nw];rfl) ?_;refine ab [] h1 ?_;refine ab [] h2 ?_;exact al
end Go.Xg
namespace Go.Xg
open Go.RowKit Go.Xw Go.Proofs
open Go.Xp (Tok Nd T levels cE bD aR aB)
open Go.Im (nT ru tN lr cP fA tD jH fO oY pS fP uB cV)
attribute [local irreducible] GW GL GO YG GC GA aY ba
theorem Nq (t:T) (z:Int):GF Tryz.prog 201 [uT t,.v (ii z)] [] (.v (.bool (lr t z))) []:=by
 have h:=Dr t.n.s;unfold lr
 cases hk:(t.n.kind==6) with
 | true =>
  generalize ru t.n.s=y at *;refine aj Tryz.func201 Tryz.ntmps201 ?_;refine ab [] h ?_;exact al
 | false =>
  refine aj Tryz.func201 Tryz.ntmps201 ?_;exact al
theorem uw (t:T) (b:Bool) (x:ai) (hx:x.length<=1099511627776) (h:GF Tryz.prog 160 [uT t] [] (.v (sv x)) []) :
  GF Tryz.prog 199 [uT t,.v (.bool b)] [] (.v (sv (tN b x))) []:=by
 unfold tN
 cases b with
 | true =>
  refine aj Tryz.func199 Tryz.ntmps199 ?_;refine ab [] h ?_;exact al
 | false =>
  refine aj Tryz.func199 Tryz.ntmps199 ?_;refine ab [] h ?_;exact al
theorem PR (ex:FuncId) [hf:aI Tryz.prog ex] (tx:T->ai) (l:List T) (h:∀ t∈l,GF Tryz.prog ex [uT t] [] (.v (sv (tx t))) []) (hj:(bD (l.map tx)).length<=1099511627776) (hl:l.length<=1099511627776) :
  GF Tryz.prog 198 [.sl 1 (cm l),.v (.func (.func ex) #[] #[])] [] (.v (sv (bD (l.map tx)))) []:=by
 have oI:=qG l;have hJ:=Ln (l.map tx) hj (by simpa using hl);refine aj Tryz.func198 Tryz.ntmps198 ?_;refine GW.wk (Wk.Ci (t:=5) (a:=none) (c:=0) 9 1 rfl) ?_;refine GW.range (cm l).length (fun k fr Γ=>∃ m rows,fr=[.sl 1 (cm l),.v (.func (.func ex) #[] #[]),.U,.U,.U,.vec 0 m,.U,.U,.sl 1 (cm l),.v (ii ((cm l).length:Int)),.v (ii (k:Nat)),.U,.U,.U,.U,.U,.U,.U,.U,.U,.U,.U,.U]/\Γ=[.vec 9 1 0 rows]/\rows.length=m/\rows=((l.take k).map tx).map (fun s=>[GV.v (sv s)])/\m=k) ?_ ah ?_ ?_ ?_
 ·exact ⟨_,_,Wk.aD ar,0,[],rfl,rfl,rfl,rfl,rfl⟩
 ·rintro k _ _ ⟨m,rows,rfl,rfl,_⟩;exact dO
 ·rintro k _ _ ao ⟨m,rows,rfl,rfl,hm,bz,sT⟩;rw [oI] at ao
  have b6:l[k]?=some l[k]:=by simp [ao]
  have hr:=vr b6;have ht:=h l[k] (getElem_mem ao)
  have bh:((l.take (k+1)).map tx).map (fun s=>[GV.v (sv s)])=rows++[[.v (sv (tx l[k]))]]:=by rw [take_add_one,b6,bz,map_append,map_append];rfl
  generalize l[k]=t at *;refine ae ?_;refine iD [] ht ?_;refine ae ?_;refine eR ?_;refine ae ?_;exact ⟨rfl,rfl,_,_,Wk.aD ar,_,_,rfl,rfl,by simp [hm],bh.symm,by omega⟩
 ·rintro _ _ ⟨m,rows,rfl,rfl,hm,bz,sT⟩;rw [oI,take_length] at bz;refine be ?_;refine GW.wk (Wk.jy (t:=5) rfl rfl rfl hm) ?_;subst bz;refine ae ?_;refine ab [] hJ ?_;exact al
theorem WH {t:T} (h:cV t.n.kind t.kids.length=true) (hk:t.n.kind=3\/t.n.kind=5):∃ a,t.kids=[a]:=by
 have:t.kids.length=1:=by
  unfold cV at h
  rcases hk with hk | hk <;> rw [hk] at h <;> simp at h <;> omega
 match hl:t.kids,this with
 | [a],_=>exact ⟨a,rfl⟩
theorem WI {t:T} (h:cV t.n.kind t.kids.length=true) (hk:t.n.kind=6):∃ a b,t.kids=[a,b]:=by
 have:t.kids.length=2:=by
  unfold cV at h;rw [hk] at h;simp at h;omega
 match hl:t.kids,this with
 | [a,b],_=>exact ⟨a,b,rfl⟩
theorem Tl:∀ (N:Nat) (t:T),aR t<=N->fP t=true->oY t->jH t<=1099511627776->GF Tryz.prog 160 [uT t] [] (.v (sv (cP t))) []:=by
 intro N
 induction N with
 | zero=>intro t h;rw [Go.Xp.ej] at h;omega
 | succ N ih =>
 intro t hN hk hn hw;have hlen:=Go.Im.vD _ t (Nat.le_refl _) hn;rw [Go.Xp.ej] at hN;rw [Go.Im.xR,Bool.and_eq_true,Go.Im.s9,all_eq_true] at hk;rw [Go.Im.qD] at hn
 have gZ:∀ a∈t.kids,GF Tryz.prog 160 [uT a] [] (.v (sv (cP a))) []/\(cP a).length<=1099511627776:=fun a ha=>by
  have h1:=Go.Im.tI ha;rw [Go.Im.oP] at hw;have h3:=Go.Im.jG hn.2 ha
  have h2:aR a<=aB t.kids:=by
   have:∀ (l:List T),a∈l->aR a<=aB l:=by
    intro l
    induction l with
    | nil=>intro h;cases h
    | cons b l ih2 =>
     intro h;rw [aB]
     rcases List.mem_cons.1 h with rfl | h
     ·omega
     ·have:=ih2 h;omega
   exact this _ ha
  have h4:=Go.Im.vD _ a (Nat.le_refl _) h3;exact ⟨ih a ah (hk.2 a ha) h3 ah,by omega⟩
 rw [Go.Im.N3] at hlen |-;unfold tD at hlen |-;have rO:=hk.1;have XH:=@WH t rO;have Y8:=@WI t rO;have UF:=Lm t.n.n hn.1.1 hn.1.2;have Ig:=Dr t.n.s
 have eX:t.kids.length<=1099511627776:=by
  have:=Go.Im.PM t.kids;rw [Go.Im.oP] at hw;omega
 have D0:=fun hj=>PR 160 cP t.kids (fun a ha=>(gZ a ha).1) hj eX
 rw [<-Go.Im.Cz] at D0
 have tX:t.n.s.length<=1099511627776:=by rw [Go.Im.oP] at hw;omega
 have MO:(bD (fA t.kids)).length<=1099511627776:=by
  have h1:=Go.Im.z6 (fA t.kids)
  have h2:((fA t.kids).map fun y=>y.length+2).sum<=fO t.kids:=by
   have:∀ (l:List T),pS l->((fA l).map fun y=>y.length+2).sum<=fO l:=by
    intro l
    induction l with
    | nil=>intro _;simp [fA]
    | cons a l ih2 =>
     intro h;rw [pS] at h;have h1:=Go.Im.vD _ a (Nat.le_refl _) h.1;have h2:=ih2 h.2;rw [fA,fO,List.map_cons,sum_cons];omega
   exact this _ hn.2
  rw [Go.Im.oP] at hw;omega
 have D0:=D0 MO;clear MO;unfold uT;generalize lB:t.n.kind=kd at *
 by_cases h1:kd=1
 ·subst h1
  have f1:((1:Int)==1)=true:=by decide
  rw [if_pos rfl];refine aj Tryz.func160 Tryz.ntmps160 ?_;refine ab [] UF ?_;exact al
 rw [if_neg h1] at hlen |-
 have g1:(kd==1)=false:=by simpa using h1
 by_cases h3:kd=3
 ·subst h3
  have f1:((3:Int)==1)=false:=by decide
  have f3:((3:Int)==3)=true:=by decide
  rw [if_pos rfl] at hlen |-;obtain ⟨a,ha⟩:=XH (.inl rfl);rw [ha] at gZ hlen |-;obtain ⟨c1,c2⟩:=gZ a (List.mem_singleton.2 rfl)
  have hr:(cm [a])[0]?=some [uT a]:=by rw [kx];rfl
  simp only [fA,getD_cons_zero] at hlen |-;generalize cm [a]=rows at *;generalize cP a=x at *;refine aj Tryz.func160 Tryz.ntmps160 ?_;refine aJ (aC 0 12 (.a 12 (aC 13 3 .nil))) ?_;refine au ?_;refine aE [] c1 ?_;exact aw
 rw [if_neg h3] at hlen |-
 have g3:(kd==3)=false:=by simpa using h3
 by_cases h4:kd=4
 ·subst h4
  have f1:((4:Int)==1)=false:=by decide
  have f3:((4:Int)==3)=false:=by decide
  have f4:((4:Int)==4)=true:=by decide
  rw [if_pos rfl] at hlen |-;generalize cm t.kids=rows at *;generalize bD (fA t.kids)=x at *;simp only [length_append,length_cons,length_nil] at hlen;refine aj Tryz.func160 Tryz.ntmps160 ?_;refine aJ (aC 0 10 (.a 10 (aC 11 3 .nil))) ?_;refine au ?_;refine aE [] D0 ?_;exact aw
 rw [if_neg h4] at hlen |-
 have g4:(kd==4)=false:=by simpa using h4
 by_cases h5:kd=5
 ·subst h5
  have f1:((5:Int)==1)=false:=by decide
  have f3:((5:Int)==3)=false:=by decide
  have f4:((5:Int)==4)=false:=by decide
  have f5:((5:Int)==5)=true:=by decide
  rw [if_pos rfl] at hlen |-;obtain ⟨a,ha⟩:=XH (.inr rfl);rw [ha] at gZ hlen |-;obtain ⟨c1,c2⟩:=gZ a (List.mem_singleton.2 rfl)
  have hr:(cm [a])[0]?=some [uT a]:=by rw [kx];rfl
  simp only [fA,getD_cons_zero] at hlen |-;have Uq:=uw a (a.n.kind==6) (cP a) c2 c1;have nc:=Go.Im.yl (a.n.kind==6) (cP a);generalize cm [a]=rows at *;generalize hxx:tN (a.n.kind==6) (cP a)=x at *;refine aj Tryz.func160 Tryz.ntmps160 ?_;refine aJ (aC 0 23 (.a 23 (.q 24 (.q 25 .nil)))) ?_;refine au ?_;refine aE [] Uq ?_;exact aw
 rw [if_neg h5] at hlen |-
 have g5:(kd==5)=false:=by simpa using h5
 by_cases h6:kd=6
 ·subst h6
  have f1:((6:Int)==1)=false:=by decide
  have f3:((6:Int)==3)=false:=by decide
  have f4:((6:Int)==4)=false:=by decide
  have f5:((6:Int)==5)=false:=by decide
  have f6:((6:Int)==6)=true:=by decide
  rw [if_pos rfl] at hlen |-;obtain ⟨a,b,ha⟩:=Y8 rfl;rw [ha] at gZ hlen |-;obtain ⟨c1,c2⟩:=gZ a (List.mem_cons_self);obtain ⟨d1,d2⟩:=gZ b (List.mem_cons_of_mem _ List.mem_cons_self)
  have hr:(cm [a,b])[0]?=some [uT a]:=by rw [kx];rfl
  have gh:(cm [a,b])[1]?=some [uT b]:=by rw [kx];rfl
  simp only [fA,getD_cons_zero,getD_cons_succ] at hlen |-
  have aap : -1<=ru t.n.s/\ru t.n.s<=9:=by
   unfold ru
   cases hf:levels.findIdx? (fun l=>l.contains t.n.s) with
   | none=>simp
   | some i =>
    rw [List.findIdx?_eq_some_iff_getElem] at hf;have:=hf.1
    have h9:levels.length=9:=by decide
    simp only;omega
  generalize ru t.n.s=lv at *;have ff:=Nq a lv;have jC:=Nq b (lv+1);have Uq:=uw a (lr a lv) (cP a) c2 c1;have YW:=uw b (lr b (lv+1)) (cP b) d2 d1;generalize cm [a,b]=rows at *;generalize hxx:tN (lr a lv) (cP a)=x at *;generalize hyy:tN (lr b (lv+1)) (cP b)=y at *;simp only [length_append,length_cons,length_nil] at hlen;refine aj Tryz.func160 Tryz.ntmps160 ?_;refine ab [] Ig ?_;refine aJ (aC 0 14 (aC 17 5 (aC 24 15 (.a 14 (.a 15 (.q 16 (.q 22 (.q 23 (.a 39 (.a 40 (.q 41 (.q 42 .nil)))))))))))) ?_;refine au ?_;refine yf [] ff ?_;refine au ?_;refine aE [] Uq ?_;refine yf [] jC ?_;refine au ?_;refine aE [] YW ?_;exact aw
 rw [if_neg h6]
 have g6:(kd==6)=false:=by simpa using h6
 refine aj Tryz.func160 Tryz.ntmps160 ?_;exact al
end Go.Xg
set_option maxHeartbeats 2000000
namespace Go.Xg
open Go.RowKit Go.Xw Go.Proofs
open Go.Xp (Tok Nd T levels cE bD aR aB)
open Go.Im
attribute [local irreducible] GW GL GO YG GC GA aY ba
abbrev iH (f:FuncId):Value:=.func (.func f) #[] #[]
theorem Pr (l:List ai) (d:Nat) (hb:(fu l d).length<=1099511627776) (hl:l.length<=1099511627776):GF Tryz.prog 161 [strs l,.v (ii (d:Nat))] [] (.v (sv (fu l d))) []:=by
 have dh:(l.map fun s=>[GV.v (sv s)]).length=l.length:=by simp
 have u6:=sF l [123,32];unfold fu at hb |-;rw [length_append,u6] at hb;refine aj Tryz.func161 Tryz.ntmps161 ?_;refine GW.range (l.map fun s=>[GV.v (sv s)]).length (fun k fr Γ=>fr=[strs l,.U,.U,.U,.U,.v (sv (rF [123,32] (l.take k))),.U,.U,strs l,.v (ii ((l.map fun s=>[GV.v (sv s)]).length:Int)),.v (ii (k:Nat)),.U,.U,.U,.U,.U,.U,.U,.U,.U,.U]/\Γ=[]) ?_ ah ?_ ?_ ?_
 ·exact jq
 ·rintro k _ _ ⟨rfl,rfl⟩;exact dO
 ·rintro k _ _ ao ⟨rfl,rfl⟩;rw [dh] at ao
  have b6:l[k]?=some l[k]:=by simp [ao]
  have sR:(l.map fun s=>[GV.v (sv s)])[k]?=some [.v (sv l[k])]:=by rw [getElem?_map,b6];rfl
  have h1:=sF (l.take (k+1)) [123,32];have h2:=NZ l (k+1)
  have hz:kp (l.take (k+1))=kp (l.take k)+(l[k].length+1):=by rw [take_add_one,b6,Gk];simp [kp]
  have h3:=sF (l.take k) [123,32];rw [show l.take (k+1)=l.take k++[l[k]] by rw [take_add_one,b6];rfl,LI] at |-;generalize l[k]=z at *;generalize rF [123,32] (l.take k)=acc at *;simp only [length_cons,length_nil] at h3 hb
  have aai:acc.length+z.length+3<=1099511627777:=by omega
  refine ae ?_;exact ⟨rfl,rfl,_,_,Wk.aD ar,rfl,rfl⟩
 ·rintro _ _ ⟨rfl,rfl⟩;rw [dh,take_length];generalize rF [123,32] l=acc at *;simp only [length_append,length_cons,length_nil] at u6 hb;exact aw
theorem WZ (ex bk:FuncId) [hf:aI Tryz.prog ex] (tx:T->ai) (t a:T) (k:Nat) (hk:t.kids[k]?=some a) (h:GF Tryz.prog ex [uT a] [] (.v (sv (tx a))) []) :
  GF Tryz.prog 265 [.v (ii (k:Nat)),.box [.v (iH ex),.v (iH bk)] 0,.box [uT t] 0] [] (.v (sv (tx a))) []:=by
 have hr:=vr hk;generalize tx a=x at *;refine aj Tryz.func265 Tryz.ntmps265 ?_;refine aJ (aC 0 9 (.a 9 (.q 10 .nil))) ?_;refine au ?_;refine yf [] h ?_;refine au ?_;exact aw
structure Wr (ex bk:FuncId) (tx:T->ai) (inl:List ai->Nat->ai):Prop where
 expr:∀ a,fP a=true->oY a->jH a<=1099511627776->GF Tryz.prog ex [uT a] [] (.v (sv (tx a))) []
 block:∀ l (d:Nat),(inl l d).length<=1099511627776->l.length<=1099511627776->d<=1099511627776->GF Tryz.prog bk [strs l,.v (ii (d:Nat))] [] (.v (sv (inl l d))) []
 mem:∀ l d s,s∈l->s.length<=(inl l d).length
theorem yX (ex bk:FuncId) [he:aI Tryz.prog ex] [hb:aI Tryz.prog bk] (tx:T->ai) (inl:List ai->Nat->ai) (W:Wr ex bk tx inl) (t:T) (d:Nat) (hd:d+1<=1099511627776) (hl:t.kids.length<=1099511627776) (hlen:(mZ tx inl d t).length<=1099511627776)
  (h:∀ a∈t.kids,(j0 tx inl (d+1) a).length<=1099511627776->GF Tryz.prog 231 [.agg [.v (iH ex),.v (iH bk)],uT a,.v (ii ((d+1:Nat):Int))] [] (.v (sv (j0 tx inl (d+1) a))) []) :
  GF Tryz.prog 197 [.agg [.v (iH ex),.v (iH bk)],uT t,.v (ii (d:Nat))] [] (.v (sv (mZ tx inl d t))) []:=by
 have oI:=qG t.kids;rw [LA,I3] at hlen |-;have dA:=W.block (t.kids.map (j0 tx inl (d+1))) d hlen (by simpa using hl) ah
 have hk:∀ a∈t.kids,GF Tryz.prog 231 [.agg [.v (iH ex),.v (iH bk)],uT a,.v (ii ((d+1:Nat):Int))] [] (.v (sv (j0 tx inl (d+1) a))) []:=fun a ha =>
  h a ha (Nat.le_trans (W.mem _ d _ (List.mem_map.2 ⟨a,ha,rfl⟩)) hlen)
 generalize inl (t.kids.map (j0 tx inl (d+1))) d=y at *;refine aj Tryz.func197 Tryz.ntmps197 ?_;refine GW.wk (Wk.Ci (t:=7) (a:=none) (c:=0) 9 1 rfl) ?_;refine GW.range (cm t.kids).length (fun k fr Γ=>∃ m rows,fr=[.U,.U,.v (ii (d:Nat)),.loc 0 0,.U,.U,.U,.vec 1 m,.U,.U,.U,.U,.U,.sl 1 (cm t.kids),.v (ii ((cm t.kids).length:Int)),.v (ii (k:Nat)),.U,.U,.U,.U,.U,.U,.U,.U,.U,.U,.U,.U,.U,.U,.U,.U,.U]/\Γ=[.box 192 [.v (iH ex),.v (iH bk)],.vec 9 1 0 rows]/\rows.length=m/\rows=((t.kids.take k).map (j0 tx inl (d+1))).map (fun s=>[GV.v (sv s)])/\m=k) ?_ ah ?_ ?_ ?_
 ·exact ⟨_,_,Wk.aD ar,0,[],rfl,rfl,rfl,rfl,rfl⟩
 ·rintro k _ _ ⟨m,rows,rfl,rfl,_⟩;exact dO
 ·rintro k _ _ ao ⟨m,rows,rfl,rfl,hm,bz,sT⟩;rw [oI] at ao
  have b6:t.kids[k]?=some t.kids[k]:=by simp [ao]
  have hr:=vr b6;have ht:=hk t.kids[k] (getElem_mem ao)
  have bh:((t.kids.take (k+1)).map (j0 tx inl (d+1))).map (fun s=>[GV.v (sv s)])=rows++[[.v (sv (j0 tx inl (d+1) t.kids[k]))]]:=by rw [take_add_one,b6,bz,map_append,map_append];rfl
  generalize t.kids[k]=kid at *;generalize j0 tx inl (d+1) kid=z at *;refine ae ?_;refine ab [] ht ?_;refine eR ?_;refine ae ?_;exact ⟨rfl,rfl,_,_,Wk.aD ar,_,_,rfl,rfl,by simp [hm],bh.symm,by omega⟩
 ·rintro _ _ ⟨m,rows,rfl,rfl,hm,bz,sT⟩;rw [oI,take_length] at bz;refine be ?_;refine GW.wk (Wk.jy (t:=7) rfl rfl rfl hm) ?_;subst bz;refine ae ?_;refine iD [] dA ?_;exact aw
theorem WJ {t:T} {n:Nat} (h:cV t.n.kind t.kids.length=true) (hk:(n=1/\(t.n.kind=13\/t.n.kind=7\/t.n.kind=11\/t.n.kind=12))\/(n=2/\(t.n.kind=8\/t.n.kind=10))):t.kids.length=n:=by
 unfold cV at h
 rcases hk with ⟨rfl,hk⟩ | ⟨rfl,hk⟩
 ·rcases hk with hk | hk | hk | hk <;> rw [hk] at h <;> simp at h <;> omega
 ·rcases hk with hk | hk <;> rw [hk] at h <;> simp at h <;> omega
theorem Va {t:T} (h:cV t.n.kind t.kids.length=true) (hk:t.n.kind=9):t.kids.length=2\/t.kids.length=3:=by
 unfold cV at h;rw [hk] at h;simp at h;omega
theorem Hu (ex bk:FuncId) [he:aI Tryz.prog ex] [hb:aI Tryz.prog bk] (tx:T->ai) (inl:List ai->Nat->ai) (W:Wr ex bk tx inl):∀ (N:Nat) (t:T),aR t<=N->fP t=true->oY t->jH t<=1099511627776->∀ d,d+aR t<=1099511627776->(j0 tx inl d t).length<=1099511627776 ->
  GF Tryz.prog 231 [.agg [.v (iH ex),.v (iH bk)],uT t,.v (ii (d:Nat))] [] (.v (sv (j0 tx inl d t))) []:=by
 intro N
 induction N with
 | zero=>intro t h;rw [Go.Xp.ej] at h;omega
 | succ N ih =>
 intro t hN hk hn hw d hd hlen;have fa:=W.expr t hk hn hw;rw [Go.Xp.ej] at hN hd;rw [Go.Im.xR,Bool.and_eq_true,Go.Im.s9,all_eq_true] at hk;rw [Go.Im.qD] at hn;have hwe:=Go.Im.oP t
 have JY:∀ (l:List T) (a:T),a∈l->aR a<=aB l:=by
  intro l
  induction l with
  | nil=>intro a h;cases h
  | cons b l ih2 =>
   intro a h;rw [aB]
   rcases List.mem_cons.1 h with rfl | h
   ·omega
   ·have:=ih2 a h;omega
 have hY:=fun (k:Nat) (a:T) (ng:t.kids[k]?=some a)=>WZ ex bk tx t a k ng (W.expr a (hk.2 a (mem_of_getElem? ng)) (Go.Im.jG hn.2 (mem_of_getElem? ng)) (by have:=Go.Im.tI (mem_of_getElem? ng);omega))
 have dA:∀ a∈t.kids,(mZ tx inl d a).length<=1099511627776->GF Tryz.prog 197 [.agg [.v (iH ex),.v (iH bk)],uT a,.v (ii (d:Nat))] [] (.v (sv (mZ tx inl d a))) []:=fun a ha UA=>by
  have h1:=JY _ a ha;have h2:=Go.Im.tI ha;have h3:=hk.2 a ha;have h4:=Go.Im.jG hn.2 ha;rw [Go.Im.xR,Bool.and_eq_true,Go.Im.s9,all_eq_true] at h3;rw [Go.Im.qD] at h4;have h5:=Go.Xp.ej a;have h6:=Go.Xp.bR a.kids;have h7:=Go.Im.oP a
  refine yX ex bk tx inl W a d ah ah UA fun b eL hlb=>?_
  have h8:=JY _ b eL;have h9:=Go.Im.tI eL;exact ih b ah (h3.2 b eL) (Go.Im.jG h4.2 eL) ah (d+1) ah hlb
 rw [NX] at hlen |-;unfold xa at hlen |-;rw [HE] at hlen |-;have rO:=@WJ t;have Y9:=@Va t hk.1
 have rO:=fun n=>@rO n hk.1
 unfold uT at fa |-;unfold uT at hY;generalize lB:t.n.kind=kd at *
 by_cases eK:kd=13
 ·subst eK
  have f13:((13:Int)==13)=true:=by decide
  rw [if_pos rfl] at hlen |-;have ff:=rO 1 (.inl ⟨rfl,.inl rfl⟩)
  obtain ⟨a,ha⟩:∃ a,t.kids=[a]:=by
   match hl:t.kids,ff with
   | [a],_=>exact ⟨a,rfl⟩
  have h0:=hY 0 a (by rw [ha];rfl);rw [ha] at hlen |-;rw [ha] at h0;simp only [List.map_cons,map_nil,getD_cons_zero,length_append,length_cons,length_nil] at hlen |-;generalize tx a=x at *;generalize cm [a]=rows at *;refine df Tryz.func231 Tryz.ntmps231 ?_;refine jh ?_;refine GL.wk (Wk.freeze (i:=0) rfl rfl rfl (Nat.zero_le _)) ?_;refine GL.wk (Wk.freeze (i:=1) rfl rfl rfl (Nat.zero_le _)) ?_;refine GN (by simp only [om,nw];rfl) ?_;refine ae ?_;refine aJ (aC 0 8 (.a 8 (aC 9 3 .nil))) ?_;refine au ?_;refine iO [] h0 ?_;refine au ?_;exact aw
 rw [if_neg eK] at hlen |-
 have g13:(kd==13)=false:=by simpa using eK
 by_cases h7:kd=7
 ·subst h7
  have f13:((7:Int)==13)=false:=by decide
  have f7:((7:Int)==7)=true:=by decide
  rw [if_pos rfl] at hlen |-;have ff:=rO 1 (.inl ⟨rfl,.inr (.inl rfl)⟩)
  obtain ⟨a,ha⟩:∃ a,t.kids=[a]:=by
   match hl:t.kids,ff with
   | [a],_=>exact ⟨a,rfl⟩
  have h0:=hY 0 a (by rw [ha];rfl);rw [ha] at hlen |-;rw [ha] at h0;simp only [List.map_cons,map_nil,getD_cons_zero,length_append,length_cons,length_nil] at hlen |-;generalize tx a=x at *;generalize cm [a]=rows at *;refine df Tryz.func231 Tryz.ntmps231 ?_;refine jh ?_;refine GL.wk (Wk.freeze (i:=0) rfl rfl rfl (Nat.zero_le _)) ?_;refine GL.wk (Wk.freeze (i:=1) rfl rfl rfl (Nat.zero_le _)) ?_;refine GN (by simp only [om,nw];rfl) ?_;refine ae ?_;refine aJ (aC 0 7 (.a 7 (aC 8 3 .nil))) ?_;refine au ?_;refine iO [] h0 ?_;refine au ?_;exact aw
 rw [if_neg h7] at hlen |-
 have g7:(kd==7)=false:=by simpa using h7
 by_cases h8:kd=8
 ·subst h8
  have f13:((8:Int)==13)=false:=by decide
  have f7:((8:Int)==7)=false:=by decide
  have f8:((8:Int)==8)=true:=by decide
  rw [if_pos rfl] at hlen |-;have ff:=rO 2 (.inr ⟨rfl,.inl rfl⟩)
  obtain ⟨a,b,ha⟩:∃ a b,t.kids=[a,b]:=by
   match hl:t.kids,ff with
   | [a,b],_=>exact ⟨a,b,rfl⟩
  have h0:=hY 0 a (by rw [ha];rfl);have h1:=hY 1 b (by rw [ha];rfl);rw [ha] at hlen |-;rw [ha] at h0 h1;simp only [List.map_cons,map_nil,getD_cons_zero,getD_cons_succ,length_append,length_cons,length_nil] at hlen |-;generalize tx a=x at *;generalize tx b=y at *;generalize cm [a,b]=rows at *;refine df Tryz.func231 Tryz.ntmps231 ?_;refine jh ?_;refine GL.wk (Wk.freeze (i:=0) rfl rfl rfl (Nat.zero_le _)) ?_;refine GL.wk (Wk.freeze (i:=1) rfl rfl rfl (Nat.zero_le _)) ?_;refine GN (by simp only [om,nw];rfl) ?_;refine ae ?_;refine aJ (aC 0 7 (.q 10 (.a 7 (.q 8 (.q 9 (.a 11 (aC 12 3 .nil))))))) ?_;refine au ?_;refine iO [] h0 ?_;refine au ?_;refine iO [] h1 ?_;refine au ?_;exact aw
 rw [if_neg h8] at hlen |-
 have g8:(kd==8)=false:=by simpa using h8
 by_cases h9:kd=9
 ·subst h9
  have f13:((9:Int)==13)=false:=by decide
  have f7:((9:Int)==7)=false:=by decide
  have f8:((9:Int)==8)=false:=by decide
  have f9:((9:Int)==9)=true:=by decide
  rw [if_pos rfl] at hlen |-
  rcases Y9 rfl with ff | ff
  ·skip
   obtain ⟨a,b,ha⟩:∃ a b,t.kids=[a,b]:=by
    match hl:t.kids,ff with
    | [a,b],_=>exact ⟨a,b,rfl⟩
   have h0:=hY 0 a (by rw [ha];rfl)
   have gh:(cm [a,b])[1]?=some [uT b]:=by rw [kx];rfl
   have Fm:(cm [a,b]).length=2:=by rw [qG];rfl
   have vb:(((cm [a,b]).length:Int)==3)=false:=by rw [Fm];decide
   rw [ha] at hlen |-;rw [ha] at h0;rw [if_neg (by simp)] at hlen |-;simp only [List.map_cons,map_nil,getD_cons_zero,getD_cons_succ,length_append,length_cons,length_nil] at hlen |-;have zc:=dA b (by rw [ha];simp) ah;generalize tx a=x at *;generalize mZ tx inl d b=y at *;clear dA hY ih;generalize cm [a,b]=rows at *;refine df Tryz.func231 Tryz.ntmps231 ?_;refine jh ?_;refine GL.wk (Wk.freeze (i:=0) rfl rfl rfl (Nat.zero_le _)) ?_;refine GL.wk (Wk.freeze (i:=1) rfl rfl rfl (Nat.zero_le _)) ?_;refine GN (by simp only [om,nw];rfl) ?_;refine ae ?_;refine aJ (.q 0 (aC 4 8 (.a 1 (.q 2 (.q 3 (.a 12 (.q 13 (.q 14 .nil)))))))) ?_;refine au ?_;refine iO [] h0 ?_;refine au ?_;refine aE [] zc ?_;exact aw
  ·skip
   obtain ⟨a,b,c,ha⟩:∃ a b c,t.kids=[a,b,c]:=by
    match hl:t.kids,ff with
    | [a,b,c],_=>exact ⟨a,b,c,rfl⟩
   have h0:=hY 0 a (by rw [ha];rfl)
   have gh:(cm [a,b,c])[1]?=some [uT b]:=by rw [kx];rfl
   have dd:(cm [a,b,c])[2]?=some [uT c]:=by rw [kx];rfl
   have Fm:(cm [a,b,c]).length=3:=by rw [qG];rfl
   have vb:(((cm [a,b,c]).length:Int)==3)=true:=by rw [Fm];decide
   rw [ha] at hlen |-;rw [ha] at h0;rw [if_pos (by simp)] at hlen |-;simp only [List.map_cons,map_nil,getD_cons_zero,getD_cons_succ,length_append,length_cons,length_nil] at hlen |-;have zc:=dA b (by rw [ha];simp) ah;have eL:=dA c (by rw [ha];simp) ah;generalize tx a=x at *;generalize mZ tx inl d b=y at *;generalize mZ tx inl d c=z at *;clear dA hY ih;generalize cm [a,b,c]=rows at *;refine df Tryz.func231 Tryz.ntmps231 ?_;refine jh ?_;refine GL.wk (Wk.freeze (i:=0) rfl rfl rfl (Nat.zero_le _)) ?_;refine GL.wk (Wk.freeze (i:=1) rfl rfl rfl (Nat.zero_le _)) ?_;refine GN (by simp only [om,nw];rfl) ?_;refine ae ?_;refine aJ (.q 0 (aC 4 8 (.a 1 (.q 2 (.q 3 (.a 12 (.q 13 (.q 14 .nil)))))))) ?_;refine au ?_;refine iO [] h0 ?_;refine au ?_;refine aE [] zc ?_;refine ae ?_;refine aJ (aC 0 9 (.a 9 (aC 10 3 .nil))) ?_;refine au ?_;refine aE [] eL ?_;exact aw
 rw [if_neg h9] at hlen |-
 have g9:(kd==9)=false:=by simpa using h9
 by_cases lj:kd=10
 ·subst lj
  have f13:((10:Int)==13)=false:=by decide
  have f7:((10:Int)==7)=false:=by decide
  have f8:((10:Int)==8)=false:=by decide
  have f9:((10:Int)==9)=false:=by decide
  have f10:((10:Int)==10)=true:=by decide
  rw [if_pos rfl] at hlen |-;have ff:=rO 2 (.inr ⟨rfl,.inr rfl⟩)
  ·skip
   obtain ⟨a,b,ha⟩:∃ a b,t.kids=[a,b]:=by
    match hl:t.kids,ff with
    | [a,b],_=>exact ⟨a,b,rfl⟩
   have h0:=hY 0 a (by rw [ha];rfl)
   have gh:(cm [a,b])[1]?=some [uT b]:=by rw [kx];rfl
   have Fm:(cm [a,b]).length=2:=by rw [qG];rfl
   have vb:(((cm [a,b]).length:Int)==3)=false:=by rw [Fm];decide
   rw [ha] at hlen |-;rw [ha] at h0;simp only [List.map_cons,map_nil,getD_cons_zero,getD_cons_succ,length_append,length_cons,length_nil] at hlen |-;have zc:=dA b (by rw [ha];simp) ah;generalize tx a=x at *;generalize mZ tx inl d b=y at *;clear dA hY ih;generalize cm [a,b]=rows at *;refine df Tryz.func231 Tryz.ntmps231 ?_;refine jh ?_;refine GL.wk (Wk.freeze (i:=0) rfl rfl rfl (Nat.zero_le _)) ?_;refine GL.wk (Wk.freeze (i:=1) rfl rfl rfl (Nat.zero_le _)) ?_;refine GN (by simp only [om,nw];rfl) ?_;refine ae ?_;refine aJ (.q 0 (aC 4 8 (.a 1 (.q 2 (.q 3 (.a 12 (.q 13 (.q 14 .nil)))))))) ?_;refine au ?_;refine iO [] h0 ?_;refine au ?_;refine aE [] zc ?_;exact aw
 rw [if_neg lj] at hlen |-
 have g10:(kd==10)=false:=by simpa using lj
 by_cases oB:kd=11
 ·subst oB
  have f13:((11:Int)==13)=false:=by decide
  have f7:((11:Int)==7)=false:=by decide
  have f8:((11:Int)==8)=false:=by decide
  have f9:((11:Int)==9)=false:=by decide
  have f10:((11:Int)==10)=false:=by decide
  have f11:((11:Int)==11)=true:=by decide
  rw [if_pos rfl] at hlen |-;have ff:=rO 1 (.inl ⟨rfl,.inr (.inr (.inl rfl))⟩)
  obtain ⟨a,ha⟩:∃ a,t.kids=[a]:=by
   match hl:t.kids,ff with
   | [a],_=>exact ⟨a,rfl⟩
  have h0:=hY 0 a (by rw [ha];rfl);rw [ha] at hlen |-;rw [ha] at h0;simp only [List.map_cons,map_nil,getD_cons_zero,length_append,length_cons,length_nil] at hlen |-;generalize tx a=x at *;generalize cm [a]=rows at *;refine df Tryz.func231 Tryz.ntmps231 ?_;refine jh ?_;refine GL.wk (Wk.freeze (i:=0) rfl rfl rfl (Nat.zero_le _)) ?_;refine GL.wk (Wk.freeze (i:=1) rfl rfl rfl (Nat.zero_le _)) ?_;refine GN (by simp only [om,nw];rfl) ?_;refine ae ?_;refine gM [] h0 ?_;exact aw
 rw [if_neg oB] at hlen |-
 have g11:(kd==11)=false:=by simpa using oB
 by_cases n5:kd=12
 ·subst n5
  have f13:((12:Int)==13)=false:=by decide
  have f7:((12:Int)==7)=false:=by decide
  have f8:((12:Int)==8)=false:=by decide
  have f9:((12:Int)==9)=false:=by decide
  have f10:((12:Int)==10)=false:=by decide
  have f11:((12:Int)==11)=false:=by decide
  have f12:((12:Int)==12)=true:=by decide
  rw [if_pos rfl] at hlen |-;have ff:=rO 1 (.inl ⟨rfl,.inr (.inr (.inr rfl))⟩)
  obtain ⟨a,ha⟩:∃ a,t.kids=[a]:=by
   match hl:t.kids,ff with
   | [a],_=>exact ⟨a,rfl⟩
  have h0:=hY 0 a (by rw [ha];rfl);rw [ha] at hlen |-;rw [ha] at h0;simp only [List.map_cons,map_nil,getD_cons_zero,length_append,length_cons,length_nil] at hlen |-;generalize tx a=x at *;generalize cm [a]=rows at *;refine df Tryz.func231 Tryz.ntmps231 ?_;refine jh ?_;refine GL.wk (Wk.freeze (i:=0) rfl rfl rfl (Nat.zero_le _)) ?_;refine GL.wk (Wk.freeze (i:=1) rfl rfl rfl (Nat.zero_le _)) ?_;refine GN (by simp only [om,nw];rfl) ?_;refine ae ?_;refine gM [] h0 ?_;exact aw
 rw [if_neg n5] at hlen |-
 have g12:(kd==12)=false:=by simpa using n5
 clear dA hY ih;generalize tx t=x at *;refine df Tryz.func231 Tryz.ntmps231 ?_;refine jh ?_;refine GL.wk (Wk.freeze (i:=0) rfl rfl rfl (Nat.zero_le _)) ?_;refine GL.wk (Wk.freeze (i:=1) rfl rfl rfl (Nat.zero_le _)) ?_;refine GN (by simp only [om,nw];rfl) ?_;refine ae ?_;refine iD [] fa ?_;exact aw
end Go.Xg
namespace Go.Xg
open Go.RowKit Go.Xw Go.Proofs
open Go.Xp (Tok Nd T Ar levels cE bD aR aB)
open Go.Sp (Src)
open Go.Im
attribute [local irreducible] GW GL GO YG GC GA aY ba
theorem PF (ex bk:FuncId) [he:aI Tryz.prog ex] [hb:aI Tryz.prog bk] (tx:T->ai) (inl:List ai->Nat->ai) (W:Wr ex bk tx inl) (p:Src) (trees:List T) (hlen:(mU tx inl p trees).length<=1099511627776) (Q2:p.fns.length=trees.length)
  (hg:p.globals.length<=1099511627776) (ha:p.arrays.length<=1099511627776) (hf:p.fns.length<=1099511627776) (jr:∀ a∈p.arrays,-9223372036854775808<=a.size/\a.size<=9223372036854775807) (Dd:∀ f∈p.fns,f.params.length<=1099511627776)
  (ht:∀ t∈trees,fP t=true/\oY t/\jH t<=1099511627776/\aR t+1<=1099511627776) :
  GF Tryz.prog 159 [.agg (ay p),.sl 1 (cm trees),.v (iH ex),.v (iH bk)] [] (.v (sv (mU tx inl p trees))) []:=by
 have XK:(p.globals.map fun s=>[GV.v (sv s)]).length=p.globals.length:=by simp
 have kE:(p.arrays.map aH).length=p.arrays.length:=by simp
 have XJ:(p.fns.map ax).length=p.fns.length:=by simp
 have l2:=BS (f1 tx inl) (p.fns.zip trees) (de a1 (de g1 [] p.globals) p.arrays);have l1:=BS a1 p.arrays (de g1 [] p.globals);unfold mU at hlen |-;refine aj Tryz.func159 Tryz.ntmps159 ?_;refine GW.wk (Wk.Ci (t:=9) (a:=none) (c:=0) 5 1 rfl) ?_;refine GW.range (p.globals.map fun s=>[GV.v (sv s)]).length (fun k fr Γ=>∃ acc m rows,fr=[.U,.sl 1 (cm trees),.v (iH ex),.v (iH bk),.loc 0 0,.U,.U,.U,.U,.vec 1 m,.U,.U,.U,.U,.U,.U,.U,.U,strs p.globals,.v (ii ((p.globals.map fun s=>[GV.v (sv s)]).length:Int)),.v (ii (k:Nat)),.U,.U,.U,.U,.U,.U,.U,.U,.U,.U,.U,.U,.U,.U,.U,.U,.U,.U,.U,.U,.U,.U,.U,.U,.U,.U,.U,.U,.U,.U,.U,.U,.U,.U,.U,.U,.U,.U,.U,.U,.U,.U,.U,.U,.U,.U,.U,.U,.U,.U,.U,.U,.U,.U,.U,.U,.U,.U,.U,.U,.U]/\Γ=[.box 34 (ay p),.vec 5 1 0 rows]/\rows.length=m/\rows=cr acc/\acc=de g1 [] (p.globals.take k)) ?_ ah ?_ ?_ ?_
 ·exact ⟨_,_,Wk.aD ar,[],0,[],rfl,rfl,rfl,rfl,rfl⟩
 ·rintro k _ _ ⟨acc,m,rows,rfl,rfl,_⟩;exact dO
 ·rintro k _ _ ao ⟨acc,m,rows,rfl,rfl,hm,bz,la⟩;rw [XK] at ao
  have b6:p.globals[k]?=some p.globals[k]:=by simp [ao]
  have sR:(p.globals.map fun s=>[GV.v (sv s)])[k]?=some [.v (sv p.globals[k])]:=by rw [getElem?_map,b6];rfl
  have bh:de g1 [] (p.globals.take (k+1))=acc++g1 p.globals[k]:=by rw [take_add_one,b6,la];exact xh g1 _ _ _
  have hle:=xi g1 p.globals (k+1) [];rw [bh,length_append] at hle
  have XL:rows.length=acc.length:=by rw [bz];simp [cr]
  generalize p.globals[k]=z at *
  have hz:(g1 z).length=z.length+6:=by unfold g1;simp
  refine ae ?_;refine GL.BK (str:=g1 z) rfl rfl rfl bd rfl ah ?_;refine bT ?_;refine ae ?_;exact ⟨rfl,rfl,_,_,Wk.aD ar,acc++g1 z,_,_,rfl,rfl,by rw [length_append,hm];simp [cr],by rw [bz];exact (tO acc (g1 z)).symm,bh.symm⟩
 ·rintro _ _ ⟨acc,m,rows,rfl,rfl,hm,bz,la⟩;rw [XK,take_length] at la;rw [<-la] at hlen l1 l2 |-;refine be ?_;refine ae ?_;refine GW.range (p.arrays.map aH).length (fun k fr Γ=>∃ qp m rows,fr=[.U,.sl 1 (cm trees),.v (iH ex),.v (iH bk),.loc 0 0,.U,.U,.U,.U,.vec 1 m,.U,.U,.U,.U,.U,.U,.U,.U,.U,.U,.U,.U,.U,.U,.U,.U,.U,.U,.U,.U,.U,.sl 2 (p.arrays.map aH),.v (ii ((p.arrays.map aH).length:Int)),.v (ii (k:Nat)),.U,.U,.U,.U,.U,.U,.U,.U,.U,.U,.U,.U,.U,.U,.U,.U,.U,.U,.U,.U,.U,.U,.U,.U,.U,.U,.U,.U,.U,.U,.U,.U,.U,.U,.U,.U,.U,.U,.U,.U,.U,.U,.U,.U,.U,.U,.U,.U]/\Γ=[.box 34 (ay p),.vec 5 1 0 rows]/\rows.length=m/\rows=cr qp/\qp=de a1 acc (p.arrays.take k)) ?_ ah ?_ ?_ ?_
  ·exact ⟨_,_,Wk.aD ar,acc,m,rows,rfl,rfl,hm,bz,rfl⟩
  ·rintro k _ _ ⟨qp,m,rows,rfl,rfl,_⟩;exact dO
  ·clear hm bz;rintro k _ _ ao ⟨qp,m,rows,rfl,rfl,hm,bz,DY⟩;rw [kE] at ao
   have b6:p.arrays[k]?=some p.arrays[k]:=by simp [ao]
   have sR:(p.arrays.map aH)[k]?=some (aH p.arrays[k]):=by rw [getElem?_map,b6];rfl
   have bh:de a1 acc (p.arrays.take (k+1))=qp++a1 p.arrays[k]:=by rw [take_add_one,b6,DY];exact xh a1 _ _ _
   have hle:=xi a1 p.arrays (k+1) acc;rw [bh,length_append] at hle
   have XL:rows.length=qp.length:=by rw [bz];simp [cr]
   have xM:=jr p.arrays[k] (getElem_mem ao);generalize p.arrays[k]=z at *;have hit:=Lm z.size xM.1 xM.2;have u9:=xQ xM
   have hz:(a1 z).length=z.name.length+(nT z.size).length+8:=by unfold a1;simp;omega
   unfold aH at sR;refine ae ?_;refine aJ (aC 0 7 (.a 7 (.q 8 (.q 9 (.a 10 (.q 11 .nil)))))) ?_;refine au ?_;refine aE [] hit ?_;refine OA rfl rfl (GL.BK (str:=a1 z) rfl rfl rfl bd rfl ah (GL.nil (be (eJ.mk (by repeat (first | exact iR.n | (apply iR.w;(· decide +kernel)) | (apply iR.y;(· first | (apply YQ.t;(· exact rfl);(· exact rfl);(· (first | exact vF | (apply K.idx;first | exact YG.idxV rfl rfl rfl bd ah | exact YG.dU 0 rfl rfl rfl cQ | exact YG.dU 1 rfl rfl rfl cQ | exact YG.dU 2 rfl rfl rfl cQ | exact YG.dU 3 rfl rfl rfl cQ | exact YG.dU 4 rfl rfl rfl cQ | exact YG.dU 5 rfl rfl rfl cQ | exact YG.dU 6 rfl rfl rfl cQ) | exact vG | exact YG.vw 1 rfl rfl bd bd | exact YG.mv | exact YG.wL | (apply K.bin;first | exact YG.go rfl | exact YG.xf rfl rfl ah | exact YG.AB rfl rfl | exact YG.Bh rfl rfl | exact YG.EB rfl rfl | exact YG.FN rfl rfl | exact YG.cat rfl rfl ah | exact YG.cat rfl rfl (by simp only [length_append,length_cons,length_nil];omega) | exact YG.dx rfl rfl ah | exact YG.add rfl rfl ah | exact YG.sub rfl rfl ah | exact YG.mul rfl rfl ah | exact YG.Gj rfl rfl ah | exact YG.quo rfl rfl ah | exact YG.rem rfl rfl ah | exact YG.wj rfl rfl) | exact tF | exact tE | exact r7 | exact qd | exact rA | (apply K.idx;first | exact YG.v7 rfl rfl cB | exact YG.my rfl rfl cB rfl | exact YG.my rfl rfl cB ah | exact YG.xO rfl rfl ah) | exact YG.ext rfl rfl | exact YG.go rfl | (apply K.NV;first | exact YG.Gi rfl rfl rfl ah | exact YG.Gh rfl rfl ah | exact YG.Gg rfl rfl ah | exact YG.ya 1 rfl rfl rfl bd) | exact YG.sZ rfl rfl cB | exact YG.idxSC rfl rfl cB rfl | exact rB | exact YG.build rfl | exact YG.neg rfl ah | exact YG.sK rfl rfl | exact YG.Az rfl (by first | rfl | exact IntWalk.i64_in _ ah | exact IntWalk.u8_in _ ah | assumption) | exact YG.str rfl bd))) | (apply YQ.t;(· exact rfl);(· apply B3;(· exact rfl);(· first | exact rfl | assumption));(· (first | exact vF | (apply K.idx;first | exact YG.idxV rfl rfl rfl bd ah | exact YG.dU 0 rfl rfl rfl cQ | exact YG.dU 1 rfl rfl rfl cQ | exact YG.dU 2 rfl rfl rfl cQ | exact YG.dU 3 rfl rfl rfl cQ | exact YG.dU 4 rfl rfl rfl cQ | exact YG.dU 5 rfl rfl rfl cQ | exact YG.dU 6 rfl rfl rfl cQ) | exact vG | exact YG.vw 1 rfl rfl bd bd | exact YG.mv | exact YG.wL | (apply K.bin;first | exact YG.go rfl | exact YG.xf rfl rfl ah | exact YG.AB rfl rfl | exact YG.Bh rfl rfl | exact YG.EB rfl rfl | exact YG.FN rfl rfl | exact YG.cat rfl rfl ah | exact YG.cat rfl rfl (by simp only [length_append,length_cons,length_nil];omega) | exact YG.dx rfl rfl ah | exact YG.add rfl rfl ah | exact YG.sub rfl rfl ah | exact YG.mul rfl rfl ah | exact YG.Gj rfl rfl ah | exact YG.quo rfl rfl ah | exact YG.rem rfl rfl ah | exact YG.wj rfl rfl) | exact tF | exact tE | exact r7 | exact qd | exact rA | (apply K.idx;first | exact YG.v7 rfl rfl cB | exact YG.my rfl rfl cB rfl | exact YG.my rfl rfl cB ah | exact YG.xO rfl rfl ah) | exact YG.ext rfl rfl | exact YG.go rfl | (apply K.NV;first | exact YG.Gi rfl rfl rfl ah | exact YG.Gh rfl rfl ah | exact YG.Gg rfl rfl ah | exact YG.ya 1 rfl rfl rfl bd) | exact YG.sZ rfl rfl cB | exact YG.idxSC rfl rfl cB rfl | exact rB | exact YG.build rfl | exact YG.neg rfl ah | exact YG.sK rfl rfl | exact YG.Az rfl (by first | rfl | exact IntWalk.i64_in _ ah | exact IntWalk.u8_in _ ah | assumption) | exact YG.str rfl bd))) | (apply YQ.f;(· exact rfl);(· apply EN;(· exact rfl);(· first | exact rfl | assumption))))))) ?_))))
   refine Of ?_;refine bg ?_;exact ⟨rfl,rfl,_,_,(Wk.cut (n:=2) (Nat.zero_le _) rfl).trans (Wk.aD ar),qp++a1 z,_,_,rfl,rfl,by rw [length_append,hm];simp [cr],by rw [bz];exact (tO qp (a1 z)).symm,bh.symm⟩
  ·clear hm bz;rintro _ _ ⟨qp,m,rows,rfl,rfl,hm,bz,DY⟩;rw [kE,take_length] at DY;rw [<-DY] at hlen l2 |-
   have xJ:∀ (k:Nat) (f:Go.Sp.Fn),p.fns[k]?=some f->f.params.length<=1099511627776:=fun k f h=>Dd f (mem_of_getElem? h)
   refine be ?_;refine ae ?_;refine GW.range (p.fns.map ax).length (fun k fr Γ=>∃ ur m rows,fr=[.U,.sl 1 (cm trees),.U,.U,.U,.U,.U,.U,.U,.vec 1 m,.U,.U,.U,.U,.loc 2 0,.U,.U,.U,.U,.U,.U,.U,.U,.U,.U,.U,.U,.U,.U,.U,.U,.U,.U,.U,.U,.U,.U,.U,.U,.U,.U,.U,.U,.U,.U,.U,.U,.U,.U,.U,.U,.U,.U,.sl 3 (p.fns.map ax),.v (ii ((p.fns.map ax).length:Int)),.v (ii (k:Nat)),.U,.U,.U,.U,.U,.U,.U,.U,.U,.U,.U,.U,.U,.U,.U,.U,.U,.U,.U,.U,.U,.U,.U,.U,.U,.U]/\Γ=[.box 34 (ay p),.vec 5 1 0 rows,.box 192 [.v (iH ex),.v (iH bk)]]/\rows.length=m/\rows=cr ur/\ur=de (f1 tx inl) qp ((p.fns.zip trees).take k)) ?_ ah ?_ ?_ ?_
   ·exact ⟨_,_,Wk.aD ar,qp,m,rows,rfl,rfl,hm,bz,rfl⟩
   ·rintro k _ _ ⟨ur,m,rows,rfl,rfl,_⟩;exact dO
   ·clear hm bz;rintro k _ _ ao ⟨ur,m,rows,rfl,rfl,hm,bz,DZ⟩;rw [XJ] at ao
    have mR:k < trees.length:=by omega
    have b6:p.fns[k]?=some p.fns[k]:=by simp [ao]
    have wW:trees[k]?=some trees[k]:=by simp [mR]
    have sR:(p.fns.map ax)[k]?=some (ax p.fns[k]):=by rw [getElem?_map,b6];rfl
    have aal:=vr wW
    have hkz:(p.fns.zip trees)[k]?=some (p.fns[k],trees[k]):=by rw [List.getElem?_zip_eq_some];exact ⟨b6,wW⟩
    have bh:de (f1 tx inl) qp ((p.fns.zip trees).take (k+1))=ur++f1 tx inl (p.fns[k],trees[k]):=by rw [take_add_one,hkz,DZ];exact xh (f1 tx inl) _ _ _
    have hle:=xi (f1 tx inl) (p.fns.zip trees) (k+1) qp;rw [bh,length_append] at hle
    have XL:rows.length=ur.length:=by rw [bz];simp [cr]
    obtain ⟨q1,q2,q3,q4⟩:=ht trees[k] (getElem_mem mR);have hpk:=xJ k _ b6;generalize p.fns[k]=f at *;generalize trees[k]=t at *
    have hz:(f1 tx inl (f,t)).length=f.name.length+(bD f.params).length+(mZ tx inl 0 t).length+9:=by unfold f1;simp;omega
    have hJ:=Ln f.params ah hpk
    have JY:∀ (l:List T) (a:T),a∈l->aR a<=aB l:=by
     intro l
     induction l with
     | nil=>intro a h;cases h
     | cons b l ih2 =>
      intro a h;rw [aB]
      rcases List.mem_cons.1 h with rfl | h
      ·omega
      ·have:=ih2 a h;omega
    have hB:=yX ex bk tx inl W t 0 ah (by have:=Go.Xp.bR t.kids;have:=Go.Xp.ej t;omega) ah fun a MC UA=>by
     have h1:=JY _ a MC;have h2:=Go.Xp.ej t;have h3:=tI MC;have h4:=oP t;rw [xR,Bool.and_eq_true,s9,all_eq_true] at q1;rw [qD] at q2;exact Hu ex bk tx inl W _ a (Nat.le_refl _) (q1.2 a MC) (jG q2.2 MC) ah (0+1) ah UA
    unfold ax at sR;refine ae ?_;refine aJ (aC 0 7 (aC 10 5 (.a 7 (.q 8 (.q 9 (.a 15 (.q 16 (.q 17 (.a 18 (.q 19 .nil)))))))))) ?_;refine au ?_;refine aE [] hJ ?_;refine aE [] hB ?_;refine OA rfl rfl (GL.BK (str:=f1 tx inl (f,t)) rfl rfl rfl bd rfl ah (GL.nil (be (eJ.mk (by repeat (first | exact iR.n | (apply iR.w;(· decide +kernel)) | (apply iR.y;(· first | (apply YQ.t;(· exact rfl);(· exact rfl);(· (first | exact vF | (apply K.idx;first | exact YG.idxV rfl rfl rfl bd ah | exact YG.dU 0 rfl rfl rfl cQ | exact YG.dU 1 rfl rfl rfl cQ | exact YG.dU 2 rfl rfl rfl cQ | exact YG.dU 3 rfl rfl rfl cQ | exact YG.dU 4 rfl rfl rfl cQ | exact YG.dU 5 rfl rfl rfl cQ | exact YG.dU 6 rfl rfl rfl cQ) | exact vG | exact YG.vw 1 rfl rfl bd bd | exact YG.mv | exact YG.wL | (apply K.bin;first | exact YG.go rfl | exact YG.xf rfl rfl ah | exact YG.AB rfl rfl | exact YG.Bh rfl rfl | exact YG.EB rfl rfl | exact YG.FN rfl rfl | exact YG.cat rfl rfl ah | exact YG.cat rfl rfl (by simp only [length_append,length_cons,length_nil];omega) | exact YG.dx rfl rfl ah | exact YG.add rfl rfl ah | exact YG.sub rfl rfl ah | exact YG.mul rfl rfl ah | exact YG.Gj rfl rfl ah | exact YG.quo rfl rfl ah | exact YG.rem rfl rfl ah | exact YG.wj rfl rfl) | exact tF | exact tE | exact r7 | exact qd | exact rA | (apply K.idx;first | exact YG.v7 rfl rfl cB | exact YG.my rfl rfl cB rfl | exact YG.my rfl rfl cB ah | exact YG.xO rfl rfl ah) | exact YG.ext rfl rfl | exact YG.go rfl | (apply K.NV;first | exact YG.Gi rfl rfl rfl ah | exact YG.Gh rfl rfl ah | exact YG.Gg rfl rfl ah | exact YG.ya 1 rfl rfl rfl bd) | exact YG.sZ rfl rfl cB | exact YG.idxSC rfl rfl cB rfl | exact rB | exact YG.build rfl | exact YG.neg rfl ah | exact YG.sK rfl rfl | exact YG.Az rfl (by first | rfl | exact IntWalk.i64_in _ ah | exact IntWalk.u8_in _ ah | assumption) | exact YG.str rfl bd))) | (apply YQ.t;(· exact rfl);(· apply B3;(· exact rfl);(· first | exact rfl | assumption));(· (first | exact vF | (apply K.idx;first | exact YG.idxV rfl rfl rfl bd ah | exact YG.dU 0 rfl rfl rfl cQ | exact YG.dU 1 rfl rfl rfl cQ | exact YG.dU 2 rfl rfl rfl cQ | exact YG.dU 3 rfl rfl rfl cQ | exact YG.dU 4 rfl rfl rfl cQ | exact YG.dU 5 rfl rfl rfl cQ | exact YG.dU 6 rfl rfl rfl cQ) | exact vG | exact YG.vw 1 rfl rfl bd bd | exact YG.mv | exact YG.wL | (apply K.bin;first | exact YG.go rfl | exact YG.xf rfl rfl ah | exact YG.AB rfl rfl | exact YG.Bh rfl rfl | exact YG.EB rfl rfl | exact YG.FN rfl rfl | exact YG.cat rfl rfl ah | exact YG.cat rfl rfl (by simp only [length_append,length_cons,length_nil];omega) | exact YG.dx rfl rfl ah | exact YG.add rfl rfl ah | exact YG.sub rfl rfl ah | exact YG.mul rfl rfl ah | exact YG.Gj rfl rfl ah | exact YG.quo rfl rfl ah | exact YG.rem rfl rfl ah | exact YG.wj rfl rfl) | exact tF | exact tE | exact r7 | exact qd | exact rA | (apply K.idx;first | exact YG.v7 rfl rfl cB | exact YG.my rfl rfl cB rfl | exact YG.my rfl rfl cB ah | exact YG.xO rfl rfl ah) | exact YG.ext rfl rfl | exact YG.go rfl | (apply K.NV;first | exact YG.Gi rfl rfl rfl ah | exact YG.Gh rfl rfl ah | exact YG.Gg rfl rfl ah | exact YG.ya 1 rfl rfl rfl bd) | exact YG.sZ rfl rfl cB | exact YG.idxSC rfl rfl cB rfl | exact rB | exact YG.build rfl | exact YG.neg rfl ah | exact YG.sK rfl rfl | exact YG.Az rfl (by first | rfl | exact IntWalk.i64_in _ ah | exact IntWalk.u8_in _ ah | assumption) | exact YG.str rfl bd))) | (apply YQ.f;(· exact rfl);(· apply EN;(· exact rfl);(· first | exact rfl | assumption))))))) ?_))))
    refine Of ?_;refine bg ?_;exact ⟨rfl,rfl,_,_,(Wk.cut (n:=3) (Nat.zero_le _) rfl).trans (Wk.aD ar),ur++f1 tx inl (f,t),_,_,rfl,rfl,by rw [length_append,hm];simp [cr],by rw [bz];exact (tO ur _).symm,bh.symm⟩
   ·clear hm bz;rintro _ _ ⟨ur,m,rows,rfl,rfl,hm,bz,DZ⟩;rw [XJ,show (p.fns.zip trees).take p.fns.length=p.fns.zip trees from take_of_length_le (by simp;omega)] at DZ;rw [<-DZ] at hlen |-;refine be ?_;refine GW.wk (Wk.jy (t:=9) rfl rfl rfl hm) ?_
    have aab:rows=ur.map fun c=>[.v (.int .u8 (c.toNat:Int))]:=bz
    exact aw
end Go.Xg
namespace Go.Xg
open Go.RowKit Go.Xw Go.Proofs
open Go.Im (fc q9 ra sI lO nt)
attribute [local irreducible] GW GL GO YG GC GA aY ba
theorem Hx (a b:List ai) (ha:a.length<=1099511627776) (hb:b.length<=1099511627776):GF Tryz.prog 164 [strs a,strs b] [] (.v (.bool (fc (fun x y=>x==y) a b))) []:=by
 have kE:(a.map fun s=>[GV.v (sv s)]).length=a.length:=by simp
 have qi:(b.map fun s=>[GV.v (sv s)]).length=b.length:=by simp
 by_cases hl:a.length=b.length
 ·have hd:(((a.map fun s=>[GV.v (sv s)]).length:Int) != ((b.map fun s=>[GV.v (sv s)]).length:Int))=false:=by rw [kE,qi,hl];simp
  refine aj Tryz.func164 Tryz.ntmps164 ?_;refine GW.range (a.map fun s=>[GV.v (sv s)]).length (fun k fr Γ=>fr=[strs a,strs b,.U,.U,.U,.U,.U,.U,.U,.U,.U,.U,.v (ii ((a.map fun s=>[GV.v (sv s)]).length:Int)),.v (ii (k:Nat)),.U,.U,.U,.U,.U,.U,.U,.U,.U,.U,.U,.U]/\Γ=[]/\sI (fun x y=>x==y) a b k) ?_ ah ?_ ?_ ?_
  ·exact ⟨_,_,Wk.aD ar,rfl,rfl,fun j x y h=>by omega⟩
  ·exact fE
  ·rintro k _ _ ao ⟨rfl,rfl,kJ⟩;rw [kE] at ao
   have ng:a[k]?=some a[k]:=by simp [ao]
   have pM:k < b.length:=by omega
   have oG:b[k]?=some b[k]:=by simp [pM]
   have Fk:(a.map fun s=>[GV.v (sv s)])[k]?=some [GV.v (sv a[k])]:=by rw [getElem?_map,ng];rfl
   have Fl:(b.map fun s=>[GV.v (sv s)])[k]?=some [GV.v (sv b[k])]:=by rw [getElem?_map,oG];rfl
   generalize a[k]=x at *;generalize b[k]=y at *
   cases iV:(x==y) with
   | true =>
    have hn:(x != y)=false:=by simp only [bne,iV];rfl
    have bP:(!(x==y))=false:=by rw [iV];rfl
    refine ae ?_;refine aJ (aC 0 9 .nil) ?_;refine bg ?_;exact ⟨rfl,rfl,_,_,Wk.aD ar,rfl,rfl,lO ng oG kJ iV⟩
   | false =>
    have hn:(x != y)=true:=by simp only [bne,iV];rfl
    have bP:(!(x==y))=true:=by rw [iV];rfl
    rw [ra ng oG (p:=fun x y=>x==y) iV];refine ae ?_;refine aJ (aC 0 9 .nil) ?_;refine au ?_;exact aw
  ·rintro _ _ ⟨rfl,rfl,kJ⟩;rw [kE] at kJ;rw [nt hl kJ];exact aw
 ·have hd:(((a.map fun s=>[GV.v (sv s)]).length:Int) != ((b.map fun s=>[GV.v (sv s)]).length:Int))=true:=by rw [kE,qi];simpa using by omega
  rw [q9 hl];refine aj Tryz.func164 Tryz.ntmps164 ?_;exact al
theorem RU (a b:List Int) (ha:a.length<=1099511627776) (hb:b.length<=1099511627776):GF Tryz.prog 208 [ints a,ints b] [] (.v (.bool (fc (fun x y=>x==y) a b))) []:=by
 have kE:(a.map fun s=>[GV.v (ii s)]).length=a.length:=by simp
 have qi:(b.map fun s=>[GV.v (ii s)]).length=b.length:=by simp
 by_cases hl:a.length=b.length
 ·have hd:(((a.map fun s=>[GV.v (ii s)]).length:Int) != ((b.map fun s=>[GV.v (ii s)]).length:Int))=false:=by rw [kE,qi,hl];simp
  refine aj Tryz.func208 Tryz.ntmps208 ?_;refine GW.range (a.map fun s=>[GV.v (ii s)]).length (fun k fr Γ=>fr=[ints a,ints b,.U,.U,.U,.U,.U,.U,.U,.U,.U,.U,.v (ii ((a.map fun s=>[GV.v (ii s)]).length:Int)),.v (ii (k:Nat)),.U,.U,.U,.U,.U,.U,.U,.U,.U,.U,.U,.U]/\Γ=[]/\sI (fun x y=>x==y) a b k) ?_ ah ?_ ?_ ?_
  ·exact ⟨_,_,Wk.aD ar,rfl,rfl,fun j x y h=>by omega⟩
  ·exact fE
  ·rintro k _ _ ao ⟨rfl,rfl,kJ⟩;rw [kE] at ao
   have ng:a[k]?=some a[k]:=by simp [ao]
   have pM:k < b.length:=by omega
   have oG:b[k]?=some b[k]:=by simp [pM]
   have Fk:(a.map fun s=>[GV.v (ii s)])[k]?=some [GV.v (ii a[k])]:=by rw [getElem?_map,ng];rfl
   have Fl:(b.map fun s=>[GV.v (ii s)])[k]?=some [GV.v (ii b[k])]:=by rw [getElem?_map,oG];rfl
   generalize a[k]=x at *;generalize b[k]=y at *
   cases iV:(x==y) with
   | true =>
    have hn:(x != y)=false:=by simp only [bne,iV];rfl
    have bP:(!(x==y))=false:=by rw [iV];rfl
    refine ae ?_;refine aJ (aC 0 9 .nil) ?_;refine bg ?_;exact ⟨rfl,rfl,_,_,Wk.aD ar,rfl,rfl,lO ng oG kJ iV⟩
   | false =>
    have hn:(x != y)=true:=by simp only [bne,iV];rfl
    have bP:(!(x==y))=true:=by rw [iV];rfl
    rw [ra ng oG (p:=fun x y=>x==y) iV];refine ae ?_;refine aJ (aC 0 9 .nil) ?_;refine au ?_;exact aw
  ·rintro _ _ ⟨rfl,rfl,kJ⟩;rw [kE] at kJ;rw [nt hl kJ];exact aw
 ·have hd:(((a.map fun s=>[GV.v (ii s)]).length:Int) != ((b.map fun s=>[GV.v (ii s)]).length:Int))=true:=by rw [kE,qi];simpa using by omega
  rw [q9 hl];refine aj Tryz.func208 Tryz.ntmps208 ?_;exact al
end Go.Xg
namespace Go.Xg
open Go.RowKit Go.Xw Go.Proofs
open Go.Xp (Nd)
open Go.Im (qU kO fc q9 ra sI lO nt)
attribute [local irreducible] GW GL GO YG GC GA aY ba
theorem P7 (a b:Go.Sp.Fn) (ha:a.params.length<=1099511627776) (hb:b.params.length<=1099511627776):GF Tryz.prog 167 [.agg (ax a),.agg (ax b)] [] (.v (.bool (qU a b))) []:=by
 have he:=Hx a.params b.params ha hb;unfold qU ax
 cases h1:(a.name==b.name) with
 | false =>
  refine aj Tryz.func167 Tryz.ntmps167 ?_;exact al
 | true =>
  cases h2:fc (fun x y=>x==y) a.params b.params with
  | false =>
   rw [h2] at he;refine aj Tryz.func167 Tryz.ntmps167 ?_;refine ab [] he ?_;exact al
  | true =>
   rw [h2] at he;refine aj Tryz.func167 Tryz.ntmps167 ?_;refine ab [] he ?_;exact al
theorem KH (a b:Nd) (ha:a.kids.length<=1099511627776) (hb:b.kids.length<=1099511627776):GF Tryz.prog 169 [.agg (az a),.agg (az b)] [] (.v (.bool (kO a b))) []:=by
 have he:=RU a.kids b.kids ha hb;unfold kO az;generalize fc (fun x y=>x==y) a.kids b.kids=q at *
 cases h1:(a.kind==b.kind) with
 | false =>
  refine aj Tryz.func169 Tryz.ntmps169 ?_;exact al
 | true =>
  cases h2:(a.n==b.n) with
  | false =>
   refine aj Tryz.func169 Tryz.ntmps169 ?_;exact al
  | true =>
   cases h3:(a.s==b.s) with
   | false =>
    refine aj Tryz.func169 Tryz.ntmps169 ?_;exact al
   | true =>
    refine aj Tryz.func169 Tryz.ntmps169 ?_;refine ab [] he ?_;exact al
theorem GH (a b:List Go.Sp.Fn) (ha:a.length<=1099511627776) (hb:b.length<=1099511627776) (ka:∀ x∈a,x.params.length<=1099511627776) (kb:∀ x∈b,x.params.length<=1099511627776) :
  GF Tryz.prog 166 [.sl 3 (a.map ax),.sl 3 (b.map ax),.v (.func (.func 167) #[] #[])] [] (.v (.bool (fc qU a b))) []:=by
 have kE:(a.map ax).length=a.length:=by simp
 have qi:(b.map ax).length=b.length:=by simp
 by_cases hl:a.length=b.length
 ·have hd:(((a.map ax).length:Int) != ((b.map ax).length:Int))=false:=by rw [kE,qi,hl];simp
  refine aj Tryz.func166 Tryz.ntmps166 ?_;refine GW.range (a.map ax).length (fun k fr Γ=>fr=[.U,.sl 3 (b.map ax),.v (.func (.func 167) #[] #[]),.U,.U,.U,.U,.U,.U,.U,.U,.U,.U,.U,.U,.sl 3 (a.map ax),.v (ii ((a.map ax).length:Int)),.v (ii (k:Nat)),.U,.U,.U,.U,.U,.U,.U,.U,.U,.U,.U,.U,.U,.U]/\Γ=[]/\sI qU a b k) ?_ ah ?_ ?_ ?_
  ·exact ⟨_,_,Wk.aD ar,rfl,rfl,fun j x y h=>by omega⟩
  ·exact fE
  ·rintro k _ _ ao ⟨rfl,rfl,kJ⟩;rw [kE] at ao
   have ng:a[k]?=some a[k]:=by simp [ao]
   have pM:k < b.length:=by omega
   have oG:b[k]?=some b[k]:=by simp [pM]
   have Fk:(a.map ax)[k]?=some (ax a[k]):=by rw [getElem?_map,ng];rfl
   have Fl:(b.map ax)[k]?=some (ax b[k]):=by rw [getElem?_map,oG];rfl
   have hs:=P7 a[k] b[k] (ka _ (getElem_mem ao)) (kb _ (getElem_mem pM));generalize a[k]=x at *;generalize b[k]=y at *;unfold ax at Fk Fl hs
   cases iV:qU x y with
   | true =>
    rw [iV] at hs;refine ae ?_;refine iD [] hs ?_;refine ae ?_;exact ⟨rfl,rfl,_,_,(Wk.cut (n:=0) (Nat.le_refl _) rfl).trans (Wk.aD ar),rfl,rfl,lO ng oG kJ iV⟩
   | false =>
    rw [iV] at hs;rw [ra ng oG (p:=qU) iV];refine ae ?_;refine iD [] hs ?_;exact aw
  ·rintro _ _ ⟨rfl,rfl,kJ⟩;rw [kE] at kJ;rw [nt hl kJ];exact aw
 ·have hd:(((a.map ax).length:Int) != ((b.map ax).length:Int))=true:=by rw [kE,qi];simpa using by omega
  rw [q9 hl];refine aj Tryz.func166 Tryz.ntmps166 ?_;exact al
theorem GJ (a b:List Nd) (ha:a.length<=1099511627776) (hb:b.length<=1099511627776) (ka:∀ x∈a,x.kids.length<=1099511627776) (kb:∀ x∈b,x.kids.length<=1099511627776) :
  GF Tryz.prog 168 [.sl 5 (a.map az),.sl 5 (b.map az),.v (.func (.func 169) #[] #[])] [] (.v (.bool (fc kO a b))) []:=by
 have kE:(a.map az).length=a.length:=by simp
 have qi:(b.map az).length=b.length:=by simp
 by_cases hl:a.length=b.length
 ·have hd:(((a.map az).length:Int) != ((b.map az).length:Int))=false:=by rw [kE,qi,hl];simp
  refine aj Tryz.func168 Tryz.ntmps168 ?_;refine GW.range (a.map az).length (fun k fr Γ=>fr=[.U,.sl 5 (b.map az),.v (.func (.func 169) #[] #[]),.U,.U,.U,.U,.U,.U,.U,.U,.U,.U,.U,.U,.sl 5 (a.map az),.v (ii ((a.map az).length:Int)),.v (ii (k:Nat)),.U,.U,.U,.U,.U,.U,.U,.U,.U,.U,.U,.U,.U,.U]/\Γ=[]/\sI kO a b k) ?_ ah ?_ ?_ ?_
  ·exact ⟨_,_,Wk.aD ar,rfl,rfl,fun j x y h=>by omega⟩
  ·exact fE
  ·rintro k _ _ ao ⟨rfl,rfl,kJ⟩;rw [kE] at ao
   have ng:a[k]?=some a[k]:=by simp [ao]
   have pM:k < b.length:=by omega
   have oG:b[k]?=some b[k]:=by simp [pM]
   have Fk:(a.map az)[k]?=some (az a[k]):=by rw [getElem?_map,ng];rfl
   have Fl:(b.map az)[k]?=some (az b[k]):=by rw [getElem?_map,oG];rfl
   have hs:=KH a[k] b[k] (ka _ (getElem_mem ao)) (kb _ (getElem_mem pM));generalize a[k]=x at *;generalize b[k]=y at *;unfold az at Fk Fl hs
   cases iV:kO x y with
   | true =>
    rw [iV] at hs;refine ae ?_;refine iD [] hs ?_;refine ae ?_;exact ⟨rfl,rfl,_,_,(Wk.cut (n:=0) (Nat.le_refl _) rfl).trans (Wk.aD ar),rfl,rfl,lO ng oG kJ iV⟩
   | false =>
    rw [iV] at hs;rw [ra ng oG (p:=kO) iV];refine ae ?_;refine iD [] hs ?_;exact aw
  ·rintro _ _ ⟨rfl,rfl,kJ⟩;rw [kE] at kJ;rw [nt hl kJ];exact aw
 ·have hd:(((a.map az).length:Int) != ((b.map az).length:Int))=true:=by rw [kE,qi];simpa using by omega
  rw [q9 hl];refine aj Tryz.func168 Tryz.ntmps168 ?_;exact al
end Go.Xg
