/- Part 7 of proofs that are told in their last texts. -/
import Derived.Test.YtcoplmnahnipiaaGreatDoorQ4
import Derived.ProofKit
import Derived.Below
import Derived.ChangeSame
import Derived.Test.YtcoplmnahnipiaaGreatDoorQ5
import Derived.Lib.Builder
import Derived.Lib.UnsafeStr
import Derived.Shelf.Strings.Builder1
import Derived.Shelf.Strings.Builder2
import Derived.Shelf.Small.Strs
import Derived.Shelf.Strings.BuilderF
import Derived.Shelf.Strconv.Itoa0
import Derived.Shelf.Strconv.Itoa1
import Derived.Shelf.LaysM
import Derived.Shelf.Strconv.Itoa2
import Derived.Shelf.Strconv.Itoa3
import Derived.Shelf.Strings.Search1
import Derived.Shelf.Strings.Search2
import Derived.Shelf.Strings.Search3
import Derived.Shelf.Strings.Shaped
import Derived.Shelf.Sort.Plain
import Derived.Shelf.Strings.Prefix
import Derived.Shelf.Strings.Fields
import Derived.Shelf.Strings.SplitShaped
import Derived.Shelf.Unicode.Latin
import Derived.Shelf.Unicode.Is16White
import Derived.Shelf.Unicode.IsSpaceAny
import Derived.Shelf.Unicode.Is16Any
import Derived.Shelf.Unicode.Is32Any
import Derived.Shelf.Unicode.ExclAny
import Derived.Ground.Names2Prog
import Derived.Shelf.Slices.CompactI
import Derived.Shelf.Slices.In.SortNone
import Derived.Test.YtcoplmnahnipiaaGreatDoorProg
import Derived.Test.YtcoplmnahnipiaaGreatDoorQ2
import Derived.Test.YtcoplmnahnipiaaGreatDoorQ6
import Derived.Lib.OwnBridge
import Derived.Lib.AppendIntMem
import Derived.Test.YtcoplmnahnipiaaGreatDoorQ1
open List (all_append all_cons all_eq_false all_eq_true all_nil drop_eq_getElem_cons flatten_cons getD_cons_succ getD_cons_zero getElem?_append_left getElem?_eq_none getElem?_map getElem_mem length_append length_cons length_map length_nil map_append map_nil mem_map mem_of_getElem? mem_singleton sum_cons take_add_one take_length take_of_length_le)
set_option linter.unusedVariables false
set_option linter.unusedSimpArgs false
set_option maxRecDepth 100000
namespace Go.Xw
open Go.RowKit Go.WideShapes Go.ChangeShapes
section
variable {H:Type} {enc:TypeId × Value->H} {P:Program}
theorem DW {f:Func} {s:ChangeSpec} {apart fresh handsOn again:Bool} {W W':World} {args:Array Value} {v:Value} {ds gs:List (DataW H)} {before pa pv:List MemPlace}
  (hW:DataW.Whole enc P f.params.toList s.vars apart W args.toList ds gs before)
  (UT:∀ (b:Nat) (sp:Nat->Bool) (hd:Bool),DataW.TrodAll enc P W' b sp hd f.resultTypes.toList (v.resultList f.resultTypes.size) (s.fn H (ds++gs)).results [])
  (AU:∀ sp:Nat->Bool,(∀ p∈before,sp p.block=true)->DataW.TrodAll enc P W' 0 sp true f.params.toList args.toList (s.fn H (ds++gs)).args pa)
  (Rm:∀ sp:Nat->Bool,(∀ p∈before,sp p.block=true)->DataW.TrodVars enc P W' sp s.vars (s.fn H (ds++gs)).vars pv)
  (Dc:before=pa++pv) (hb:Below W.heap.size W W')
  (eF:∀ (j:Nat) (t:TypeId) (r:Value),f.resultTypes[j]?=some t->(v.resultList f.resultTypes.size)[j]?=some r->Value.okWide P W' .any 0 t r) :
  s.post enc P f apart fresh handsOn again W args v W':=by
 have ak:∀ p∈before,p.block < W.heap.size:=fun p hp=>hW.lt p hp
 have hold:∀ p∈before,(fun b=>decide (b < W.heap.size)) p.block=true:=fun p hp=>by simpa using ak p hp
 refine ⟨ds,gs,before,[],pa,pv,hW,UT _ _ _,AU _ hold,Rm _ hold,World.keptBut_mono (fun p hp=>⟨hp,?_⟩) (hb.frame (·∈before)),fun _=>?_⟩
 ·rw [Dc,List.mem_append] at hp;exact Or.inr hp
 ·obtain ⟨_,_,_,_,_,hz,hn⟩:=hW;refine ⟨eF,_,_,([]++pa)++pv,⟨[]++pa,pv,trodAll_append (AU _ (fun _ _=>rfl)) (UT _ _ _),Rm _ (fun _ _=>rfl),rfl,?_,?_⟩,?_⟩
  ·intro b off hp
   have fO:MemPlace.cell b off∈before:=by rw [Dc];simpa using hp
   rw [hb.frozen (ak _ fO)];exact hz b off fO
  ·intro ha;have:=hn ha;rw [Dc] at this;simpa using this
  ·intro p hp _;rw [Dc];simpa using hp
end
end Go.Xw
namespace Go.Xg
open Go.RowKit Go.Xw
class BH (P:Program) (t:TypeId):Prop where
 und:∃ e j,P.underlying t=some (.pointer e)/\P.info? e=some j
theorem BH.mk' {P:Program} {t e:TypeId} (h:P.underlying t=some (.pointer e)) (k:(P.info? e).isSome=true):BH P t:=⟨e,(P.info? e).get k,h,by simp⟩
section
variable {P:Program} {m:Nat} {Q:dB} {fr:List GV} {Γ:List Ob} {ops:Array Oper} {rest:List Oper} {d:Option Tmp} {op:Op} {ty:TypeId} {pos:String} {af:Array Edge}
theorem YG.vX {x y:Operand} {t t':TypeId} [hT:BH P t] {i o:Nat} (hx:aX fr x=.loc i o) (hy:aX fr y=.v (.pointer none)):YG P (.binOp .eql t x y t') fr Γ (.v (.bool false)):=fun B K β w l hI hF=>by
 have h:=hF.ev x;rw [hx] at h;generalize hv:ev l x=v at h
 cases h with
 | loc _ _ b hb =>
  obtain ⟨e,j,h1,h2⟩:=hT.und
  have hp:P.pointee t=e:=by simp [Program.pointee,h1]
  have:=run_eql_pointer_nil (P:=P) w t (some ⟨b,o,none⟩) (by rw [hp];exact h1);refine ⟨_,fun d ty pos af=>?_,.v _⟩;simp [execOp,eqGuard,hv,hF.gU hy,this]
theorem YG.wB {x y:Operand} {t t':TypeId} [hT:BH P t] {i o:Nat} (hx:aX fr x=.loc i o) (hy:aX fr y=.loc i o):YG P (.binOp .neq t x y t') fr Γ (.v (.bool false)):=fun B K β w l hI hF=>by
 have h:=hF.ev x;rw [hx] at h;have h':=hF.ev y;rw [hy] at h';generalize hv:ev l x=v at h;generalize A8:ev l y=v' at h'
 cases h with
 | loc _ _ b hb =>
  cases h' with
  | loc _ _ b' bq =>
   rw [hb] at bq;cases bq;obtain ⟨e,j,h1,h2⟩:=hT.und;have:=Lib.run_neq_ptr_same (P:=P) w ⟨b,o,none⟩ h1 h2;refine ⟨_,fun d ty pos af=>?_,.v _⟩;simp [execOp,eqGuard,hv,A8,this]
theorem Inv.again {B:Bs} {K:Fz} {β:Bt} {Γ:List Ob} {w w':World} {i E k:Nat} {rows:List (List GV)} {x:Value} {xs:List Value} (h:Inv B K β Γ w) (hi:Γ[i]?=some (.vech E k rows x)) (ho:gA w' 0 E k x rows.length xs) (hr:ba K β xs rows.flatten)
  (hx:Ext (fun b=>x.ownBlock=some b) w w'):Inv B K β Γ w':=by
 obtain ⟨xs0,h1,h2,h3,h4,h5⟩:=h.ob i _ hi
 have ek:∀ b,x.ownBlock=some b->(β i).blk=some b:=fun b hb=>by rw [h1];exact hb
 refine ⟨h.ext.step hx (fun j hj=>(h.own i j (ek j hj)).symm),h.kle,h.ble,h.loc,h.fz.ext hx (fun b o g hg he=>by rw [h5 b he o] at hg;cases hg),fun j y hj=>?_,h.out,h.dis,h.own,h.kn,h.tab.step hx (fun j hj=>⟨i,ek j hj⟩) (cl.refl K) (fun i b2 h=>.inl ⟨i,h⟩)⟩
 by_cases oe:j=i
 ·subst oe;rw [hi] at hj;cases hj;exact ⟨xs,h1,ho,hr,h4,h5⟩
 ·exact (h.ob j y hj).ext hx (fun b hb he=>oe (h.dis j i b hb (ek b he))) (cl.refl K) (cY.refl β) rfl (fun _ _ _ h=>h)
theorem GL.Wg {s x:Operand} {t u e:Nat} [hT:CH P t e] [hU:pH P u] (i:Nat) {n:Nat} {dt:Tmp} {v:Value} {rows:List (List GV)} {str:ah} (hx:aX fr x=.v (sv str)) (hs:aX fr s=.v v) (bz:Γ[i]?=some (.vech e 1 rows v)) (hn:rows.length=n) (bP:str.isEmpty=false)
  (hb:n+str.length<=140737488355328)
  (h:∀ a c,GL P m ops Q rest (br fr (some dt) (.v (.slice a (n+str.length) c))) (oset Γ i (.vech e 1 (rows++cq str) (.slice a (n+str.length) c)))) :
  GL P m ops Q (⟨some dt,.call ⟨.builtin .append,#[s,x],#[t,u]⟩,ty,pos,af,none⟩::rest) fr Γ:=fun B K β w l hm hI hF=>by
 subst hn
 have bP:str≠[]:=by intro h0;rw [h0] at bP;cases bP
 obtain ⟨xs,o1,o2,o3,o4,o5⟩:=hI.ob i _ bz;have qy:ev l s=v:=hF.gU hs
 have jK:(cq str).flatten=str.map fun c=>GV.v (.int .u8 (c.toNat:Int)):=by
  unfold cq;clear hx bP hb h;generalize str=s
  induction s with
  | nil=>rfl
  | cons c r ih=>simp only [List.map_cons,flatten_cons,ih];rfl
 have hlen:(cq str).length=str.length:=by simp [cq]
 refine WL.BJ (base:=0) (v:=v) (n:=rows.length) (xs:=xs) (str:=str) qy o2 (hF.gU hx) hb (Nat.zero_le _) ?_;intro v' w' how gI tY vh
 obtain ⟨K',hK,qz,bg⟩:=(hI.yd bz).grow (fz:=0) (o7 bz) o1 ⟨o2,o3⟩ (news:=cq str) (ns:=kq str) (by rw [hlen];exact how) gI tY (by rw [jK];exact (by
   have:(str.map fun c=>GV.v (.int .u8 (c.toNat:Int)))=lf (kq str):=by simp [lf,kq]
   rw [this];exact ba.self)) (fun r hr=>by
   simp only [cq,mem_map] at hr;obtain ⟨c,_,rfl⟩:=hr
   exact ⟨rfl,fun g hg=>by rw [mem_singleton] at hg;subst hg;rfl⟩) (by intro h0;exact bP (List.map_eq_nil_iff.1 h0)) (fun b bq o v ho hv=>by omega)
 rw [<-bd,nF] at bg;obtain ⟨a,c,pO,pj⟩:=bg.qJ (o7 bz);rw [nF] at pj;obtain ⟨a',c',rfl⟩:=how.shape;rw [bo] at pO;simp only [length_append,hlen] at pO pj qz;cases pO;exact h _ _ B K' _ w' _ hm pj ((hF.mono hK qz).put (some dt) (.v _))
theorem GL.Wf {s x:Operand} {t u e:Nat} [hT:CH P t e] [hU:pH P u] (i:Nat) {rows:List (List GV)} {v:Value} (hx:aX fr x=.v (sv [])) (hs:aX fr s=.v v) (bz:Γ[i]?=some (.vech e 1 rows v)) (hb:rows.length<=140737488355328)
  (h:GL P m ops Q rest (br fr d (.v v)) Γ):GL P m ops Q (⟨d,.call ⟨.builtin .append,#[s,x],#[t,u]⟩,ty,pos,af,none⟩::rest) fr Γ:=fun B K β w l hm hI hF=>by
 obtain ⟨xs,o1,o2,o3,o4,o5⟩:=hI.ob i _ bz;have qy:=hF.gU hs;have rH:=hF.gU hx;obtain ⟨hu,i',hi,hz,cS,xF⟩:=hT.is;have rF:(⟨([]:ah).toArray⟩:ByteArray).size=0:=rfl;obtain ⟨v',w',hr,h2,h3,h4⟩:=Lib.run_append_own_string (P:=P) w 0 t u ty e i' hu hU.und hi hz cS xF v rows.length xs o2 ⟨([]:ah).toArray⟩ (by rw [rF];simp only [maxLen];omega) (by rw [rF];omega) (Nat.zero_le _)
 have A8:v'=v:=by
  rcases o2.2 with ⟨rfl,h6⟩ | ⟨g,cap,cur,rfl,nB,hg,oG,wZ,eJ,A6⟩
  ·exact h4.2 ⟨rfl,rfl⟩
  ·have Uy:cur.size=cap:=by simpa using eJ
   have df:=Lib.run_append_room_string (P:=P) w t u ty e i' hu hU.und hi cS g rows.length cap cur hg ⟨([]:ah).toArray⟩ (by rw [rF];omega) (by unfold maxLen at wZ;rw [rF];omega);rw [hr] at df;cases df;rfl
 subst A8;have mU:(Builtin.append_ #[t,u] ty #[v',sv []]).run P w=.ok v' w':=hr;have eJ:Lib.strCells ⟨([]:ah).toArray⟩=[]:=rfl;rw [eJ,List.append_nil] at h2;have gI:Ext (fun b=>v'.ownBlock=some b) w w':=⟨h3.os,h3.tape,h3.output,h3.size,fun j hj hn=>h3.block j hj fun he=>hn he.symm⟩;have bg:=hI.again bz h2 o3 gI;exact WL.val (v:=v') (w':=w') (by simp [execOp,resolve,invoke,builtin,qy,rH,mU]) (h B K β w' _ hm bg (hF.put d (.v _)))
theorem YG.rO {x:Operand} {t:TypeId} (i:Nat) {E n c:Nat} {a:Option Addr} {rows:List (List GV)} (hx:aX fr x=.v (.slice a n c)) (bz:Γ[i]?=some (.vech E 1 rows (.slice a n c))) (hn:rows.length=n) (hp:Nat.blt 0 n=true) :
  YG P (.call ⟨.builtin .unsafeSliceData,#[x],#[t]⟩) fr Γ (.vp i n 1 0 0):=fun B K β w l hI hF=>by
 subst hn
 have hp:0 < rows.length:=by simpa using hp
 obtain ⟨xs,h1,h2,h3,h4,h5⟩:=hI.ob i _ bz;have hv:=hF.gU hx
 rcases h2.2 with ⟨h8,h9⟩ | ⟨g,cap,cur,h8,_,hg,oG,_⟩
 ·omega
 ·cases h8
  have hr:=fun ts ty=>Lib.run_unsafeSliceData_row (P:=P) (w:=w) ts ty ⟨g,0,none⟩ rows.length c ag
  exact ⟨.pointer (some ⟨g,0,none⟩),fun d ty pos af=>by simp [execOp,resolve,invoke,builtin,hv,hr],.vp i _ 1 0 0 _ ⟨_,_,h1,Nat.le_refl _,fun _=>⟨g,rfl,by simp⟩⟩⟩
theorem GL.Og {x y:Operand} {pt it e:TypeId} (i:Nat) {str:ah} {rows:List (List GV)} {v:Value} (hp:P.underlying pt=some (.pointer e)) (hc:P.cellsOf e=1) (hx:aX fr x=.vp i str.length 1 0 0) (hy:aX fr y=.v (ii str.length)) (bz:Γ[i]?=some (.vech e 1 rows v)) (lh:rows=cq str)
  (bP:str.isEmpty=false) (hb:str.length<=140737488355328)
  (h:GL P m ops Q rest (br fr d (.v (sv str))) (oset Γ i .lost)):GL P m ops Q (⟨d,.call ⟨.builtin .unsafeString,#[x,y],#[pt,it]⟩,ty,pos,af,none⟩::rest) fr Γ:=fun B K β w l hm hI hF=>by
 have bP:str≠[]:=by intro h0;rw [h0] at bP;cases bP
 subst lh;obtain ⟨xs,o1,o2,o3,o4,o5⟩:=hI.ob i _ bz
 have hlen:(cq str).length=str.length:=by simp [cq]
 have hr:=hF.ev x;rw [hx] at hr;have U8:=hF.gU hy;generalize hv:ev l x=u at hr
 cases hr with
 | vp _ _ _ _ _ _ hh =>
  obtain ⟨h0,mm,e1,e2,e3⟩:=hh;rw [e1] at o1;cases o1;obtain ⟨b,Q4,rfl⟩:=e3 hlen
  rcases o2.2 with ⟨h8,h9⟩ | ⟨g,cap,cur,h8,_,hg,oG,wZ,eJ,A6⟩
  ·rw [hlen] at h9;exact absurd (List.eq_nil_of_length_eq_zero h9) bP
  ·subst h8;simp only [Value.ownBlock,Option.some.injEq] at Q4;subst Q4
   have px:xs=kq str:=by
    have jK:(cq str).flatten=lf (kq str):=by
     have:(cq str).flatten=str.map fun c=>GV.v (.int .u8 (c.toNat:Int)):=by
      unfold cq;generalize str=s
      induction s with
      | nil=>rfl
      | cons c r ih=>simp only [List.map_cons,flatten_cons,ih];rfl
     rw [this];simp [lf,kq]
    rw [jK] at o3;apply List.ext_getElem
    ·have:=o3.1;simpa [lf] using this
    ·intro j h1 h2;have:=o3.2 j xs[j] (.v (kq str)[j]) (by simp [h1]) (by simp [lf,h2]);exact Rel.eC this
   have lg:∀ j y,str[j]?=some y->w.cell? ((⟨g,0,none⟩:Addr).add j)=some (.int .u8 y.toNat):=fun j y hy=>by
    have:=World.ownsRow.cells (g:=g) o2 rfl j (.int .u8 y.toNat) (by rw [px];simp [kq,hy]);exact this
   have aac:(cq str).length<=cur.size:=by rw [eJ];omega
   have mU:=Lib.run_unsafeString_row (P:=P) w pt it ty e hp hc g cur.size (by simp [World.shape?,hg]) str bP ag ag lg
   have gI:Ext (·=g) w (w.freeze ⟨g,0,none⟩ str.length):=by
    have:=Lib.below_freeze (Below.refl 0 w) (p:=⟨g,0,none⟩) (Nat.zero_le g) str.length
    exact ⟨this.os,this.tape,this.output,this.size,fun k hk hn=>by
     unfold World.freeze;split
     ·rfl
     ·simp only [Array.getElem?_modify]
      rw [if_neg (fun he=>hn he.symm)]⟩
   have ek:(β i).blk=some g:=by rw [e1];rfl
   have bg:Inv B K β (oset Γ i .lost) (w.freeze ⟨g,0,none⟩ str.length):=by
    refine ⟨hI.ext.step gI (fun j hj=>by subst hj;exact (hI.own i _ ek).symm),hI.kle,hI.ble,hI.loc,hI.fz.ext gI (fun b o g' lr he=>by subst he;rw [o5 _ rfl o] at lr;cases lr),fun j y hj=>?_,fun j hj=>hI.out j (by simpa [bd] using hj),hI.dis,hI.own,hI.kn,hI.tab.step gI (fun j hj=>⟨i,by subst hj;exact ek⟩) (cl.refl K) (fun i b2 h=>.inl ⟨i,h⟩)⟩;rw [bd,List.getElem?_set] at hj;split at hj
    ·rename_i eQ;split at hj
     ·cases hj;subst eQ
      intro b bq;rw [ek] at bq;cases bq;have:=rL hg;exact Nat.lt_of_lt_of_le this gI.size
     ·cases hj
    ·rename_i eQ;exact (hI.ob j y hj).ext gI (fun b hb he=>by subst he;exact eQ (hI.dis i j _ ek hb)) (cl.refl K) (cY.refl β) rfl (fun _ _ _ h=>h)
   exact WL.val (v:=sv str) (w':=w.freeze ⟨g,0,none⟩ str.length) (by simp [execOp,resolve,invoke,builtin,hv,U8,mU,sv]) (h B K β _ _ hm bg (hF.put d (.v _)))
theorem Inv.QL {B:Bs} {K:Fz} {β:Bt} {Γ:List Ob} {w:World} {x:Bk} {y:Ob} (h:Inv B K β Γ w) (hd:∀ b,x.blk=some b->(∀ i,(β i).blk≠some b)/\B.w0.heap.size<=b/\(b≠3/\b≠0))
  (ho:ke K (eZ β Γ.length x) w Γ.length y) (hold:cY β (eZ β Γ.length x)):Inv B K (eZ β Γ.length x) (Γ++[y]) w:=by
 refine ⟨h.ext,h.kle,h.ble.trans hold,h.loc,h.fz,fun i z hi=>?_,fun i hi=>?_,fun i j b hi hj=>?_,fun i b hi=>?_,h.kn,⟨h.tab.le,h.tab.pow,h.tab.spc,fun i b hi=>?_⟩⟩
 ·by_cases sc:i < Γ.length
  ·rw [getElem?_append_left sc] at hi;exact (h.ob i z hi).ext (S:=gn) (Ext.refl w) (fun _ _ h=>h) (cl.refl K) hold (bD ag) (fun _ _ _ h=>h)
  ·have:i=Γ.length:=by have:=(List.getElem?_eq_some_iff.1 hi).1;simp at this;omega
   subst this;simp at hi;subst hi;exact ho
 ·simp at hi;rw [bD ag];exact h.out i ag
 ·by_cases h1:i=Γ.length <;> by_cases h2:j=Γ.length
  ·omega
  ·subst h1;rw [bo] at hi;rw [bD h2] at hj;exact absurd hj ((hd b hi).1 j)
  ·subst h2;rw [bo] at hj;rw [bD h1] at hi;exact absurd hi ((hd b hj).1 i)
  ·rw [bD h1] at hi;rw [bD h2] at hj;exact h.dis i j b hi hj
 ·rcases lT hi with h1 | h1
  ·exact .inr (hd b h1).2.1
  ·exact h.own i b h1
 ·rcases lT hi with h1 | h1
  ·exact (hd b h1).2.2
  ·exact h.tab.free i b h1
theorem YG.Xo {x lo:Operand} {t e:TypeId} {k:Nat} [hT:mi P t e k] {rows:List (List GV)} {kk:IntKind} {i:Nat} (hx:aX fr x=.sl k rows) (fV:aX fr lo=.v (.int kk i)) (hi:Nat.blt i rows.length=true):YG P (.slice t x (some lo) none none) fr Γ (.sl k (rows.drop i)):=fun B K β w l hI hF=>by
 have hi:i < rows.length:=by simpa using hi
 have h:=hF.ev x;rw [hx] at h;have Ip:=hF.gU fV;generalize hv:ev l x=v at h
 cases h with
 | sl0 a c=>simp at hi
 | sl b o c _ _ h hc =>
  refine ⟨.slice (some ⟨b,o+i * k,none⟩) (rows.length - i) (c - i),fun d ty pos af=>?_,?_⟩
  ·have oc:¬ (c=i):=by omega
   have hle:(i:Int)<=(rows.length:Int):=by omega
   simp [execOp,Instr.sliceAt,Instr.slice,Instr.sliceBounds,Instr.sliceBound,asIntOf,hv,Ip,run_underlying hT.und,iI hT.siz,oc,Nat.le_of_lt hi,pI]
  ·have:=Rel.sl (K:=K) (β:=β) b (o+i * k) (c - i) k (rows.drop i) (fun j r hr=>?_) (by simp;omega)
   ·rw [List.length_drop] at this;exact this
   ·rw [List.getElem?_drop] at hr;refine ⟨(h (i+j) r hr).1,fun q g hg=>?_⟩;have:=(h (i+j) r hr).2 q g hg;rw [Nat.add_mul] at this;rw [show o+i * k+j * k+q=o+(i * k+j * k)+q by omega];exact this
theorem YG.tG {x lo:Operand} {t e:TypeId} {k:Nat} [hT:mi P t e k] {rows:List (List GV)} {kk:IntKind} {n:Int} (i:Nat) (hx:aX fr x=.sl k rows) (fV:aX fr lo=.v (.int kk n)) (hn:n=(i:Int)) (hi:Nat.blt i rows.length=true):YG P (.slice t x (some lo) none none) fr Γ (.sl k (rows.drop i)):=by
 subst hn;exact YG.Xo hx fV hi
end
end Go.Xg
namespace Go.Proofs
open Go.Shelf
theorem cx {α:Type} {a:Option α} {b c:α} (h:a=some b) (k:b=c:=by kernel_rfl):a=some c:=h.trans (congrArg some k)
def Tryz.zr:Go.Shelf.Ren:=⟨fun | 165=>228 | 240=>263 | 241=>264 | 276=>285 | 277=>286 | n=>n,fun | 70=>225 | 3=>3 | 0=>0 | 4=>4 | 9=>9 | 20=>20 | 72=>227 | 37=>143 | 164=>270 | 5=>5 | n=>n,fun | n=>n⟩
theorem Tryz.SJ:Go.Proofs.Lays.n165 Tryz.prog Tryz.zr:={
 mixed:=by kernel_rfl
 f165:=cx Tryz.func228
 f240:=cx Tryz.func263
 f241:=cx Tryz.func264
 f276:=cx Tryz.func285
 f277:=cx Tryz.func286
 t0:=Tryz.underlying0
 a0:=Tryz.isAgg0
 z0:=Tryz.sizeOf0
 v0:=Tryz.zeroValue0
 t3:=Tryz.underlying3
 a3:=Tryz.isAgg3
 z3:=Tryz.sizeOf3
 v3:=Tryz.zeroValue3
 t4:=Tryz.underlying4
 a4:=Tryz.isAgg4
 z4:=Tryz.sizeOf4
 v4:=Tryz.zeroValue4
 t9:=Tryz.underlying9
 a9:=Tryz.isAgg9
 z9:=Tryz.sizeOf9
 v9:=Tryz.zeroValue9
 t20:=Tryz.underlying20
 a20:=Tryz.isAgg20
 z20:=Tryz.sizeOf20
 v20:=Tryz.zeroValue20
 t37:=Tryz.underlying143
 a37:=Tryz.isAgg143
 z37:=Tryz.sizeOf143
 v37:=Tryz.zeroValue143
 t70:=Tryz.underlying225
 a70:=Tryz.isAgg225
 z70:=Tryz.sizeOf225
 v70:=Tryz.zeroValue225
 t72:=Tryz.underlying227
 a72:=Tryz.isAgg227
 z72:=Tryz.sizeOf227
 v72:=Tryz.zeroValue227
 t164:=Tryz.underlying270
 a164:=Tryz.isAgg270
 z164:=Tryz.sizeOf270
 v164:=Tryz.zeroValue270 }
theorem Tryz.yV:Builder.Extra Tryz.prog Tryz.zr:={
 sizeBuilder:=by kernel_rfl
 liesBuilder:=by kernel_rfl
 t5:=Tryz.underlying5
 a5:=Tryz.isAgg5
 z5:=Tryz.sizeOf5
 v5:=Tryz.zeroValue5
 infoByte:=by kernel_rfl
 cellsByte:=by kernel_rfl
 sizeByte:=by kernel_rfl
 neB5:=by decide }
open Go.RowKit in
theorem Tryz.Builder_Grow_fresh (B b n:Nat) (w:World) (hB:B<=b) (ek:w.heap[b]?=some (.cells #[.pointer none,.slice none 0 0] 227 (0,0))) (hBw:B<=w.heap.size) (hn:n<=281474976710656) :
  Calls Tryz.prog 228 #[.pointer (some ⟨b,0,none⟩),.int .i64 n] w fun e w'=>e=.returned (.tuple #[])/\(Lib.BuilderAt 227 5 B b (.pointer (some ⟨b,0,none⟩)) [] w'/\Below B w w'):=Any.Builder_Grow_fresh Tryz.SJ Tryz.yV B b n w hB ek hBw hn
def Tryz.Hk:Go.Shelf.Ren:=⟨fun | 137=>202 | 217=>235 | 266=>266 | n=>n,fun | 9=>9 | 5=>5 | 3=>3 | n=>n,fun | n=>n⟩
theorem Tryz.SH:Go.Proofs.Lays.n137 Tryz.prog Tryz.Hk:={
 mixed:=by kernel_rfl
 f137:=cx Tryz.func202
 f217:=cx Tryz.func235
 f266:=cx Tryz.func266
 t3:=Tryz.underlying3
 a3:=Tryz.isAgg3
 z3:=Tryz.sizeOf3
 v3:=Tryz.zeroValue3
 t5:=Tryz.underlying5
 a5:=Tryz.isAgg5
 z5:=Tryz.sizeOf5
 v5:=Tryz.zeroValue5
 t9:=Tryz.underlying9
 a9:=Tryz.isAgg9
 z9:=Tryz.sizeOf9
 v9:=Tryz.zeroValue9 }
open Go.RowKit in
theorem Tryz.strings_IndexByte (s:ByteArray) (c:Int) (w:World) :
  Calls Tryz.prog 202 #[.string s,.int .u8 c] w fun e w'=>e=.returned (.int .i64 (Lib.indexByte s.data.toList c.toNat.toUInt8))/\w'=w:=Any.strings_IndexByte Tryz.SH s c w
def Tryz.Vj:Go.Shelf.Ren:=⟨fun | 246=>262 | 283=>281 | 284=>282 | 285=>283 | 286=>284 | 129=>184 | 317=>295 | 318=>296 | 319=>297 | 320=>298 | 337=>302 | 338=>303 | n=>n,fun | 2=>2 | 3=>3 | 9=>9 | 4=>4 | 171=>266 | 0=>0 | 53=>177 | 37=>143 | 5=>5 | 173=>268 | 212=>287 | 51=>175 | 20=>20 | 213=>288 | 46=>142 | 232=>294 | 233=>295 | n=>n,fun | 17=>3 | 18=>4 | 19=>5 | n=>n⟩
def Tryz.Vi:Go.Shelf.Ren:=⟨fun | 243=>227 | 246=>262 | 283=>281 | 284=>282 | 285=>283 | 286=>284 | 129=>184 | 317=>295 | 318=>296 | 319=>297 | 320=>298 | 337=>302 | 338=>303 | n=>n,fun | 3=>3 | 9=>9 | 2=>2 | 4=>4 | 171=>266 | 0=>0 | 53=>177 | 37=>143 | 5=>5 | 173=>268 | 212=>287 | 51=>175 | 20=>20 | 213=>288 | 46=>142 | 232=>294 | 233=>295 | n=>n,fun | 17=>3 | 18=>4 | 19=>5 | n=>n⟩
def Tryz.FE:Go.Shelf.Ren:=⟨fun | 171=>195 | 243=>227 | 246=>262 | 283=>281 | 284=>282 | 285=>283 | 286=>284 | 129=>184 | 317=>295 | 318=>296 | 319=>297 | 320=>298 | 337=>302 | 338=>303 | n=>n,fun | 3=>3 | 9=>9 | 2=>2 | 4=>4 | 171=>266 | 0=>0 | 53=>177 | 37=>143 | 5=>5 | 173=>268 | 212=>287 | 51=>175 | 20=>20 | 213=>288 | 46=>142 | 232=>294 | 233=>295 | n=>n,fun | 17=>3 | 18=>4 | 19=>5 | n=>n⟩
theorem Tryz.PL:Go.Proofs.LaysM.n171 Tryz.prog Tryz.FE:={
 mixed:=by kernel_rfl
 f129:=cx Tryz.func184
 f171:=cx Tryz.func195
 f243:=cx Tryz.func227
 f246:=cx Tryz.func262
 f283:=cx Tryz.func281
 f284:=cx Tryz.func282
 f285:=cx Tryz.func283
 f286:=cx Tryz.func284
 f317:=cx Tryz.func295
 f318:=cx Tryz.func296
 f319:=cx Tryz.func297
 f320:=cx Tryz.func298
 f337:=cx Tryz.func302
 f338:=cx Tryz.func303
 t0:=Tryz.underlying0
 a0:=Tryz.isAgg0
 z0:=Tryz.sizeOf0
 v0:=Tryz.zeroValue0
 t2:=Tryz.underlying2
 a2:=Tryz.isAgg2
 z2:=Tryz.sizeOf2
 v2:=Tryz.zeroValue2
 t3:=Tryz.underlying3
 a3:=Tryz.isAgg3
 z3:=Tryz.sizeOf3
 v3:=Tryz.zeroValue3
 t4:=Tryz.underlying4
 a4:=Tryz.isAgg4
 z4:=Tryz.sizeOf4
 v4:=Tryz.zeroValue4
 t5:=Tryz.underlying5
 a5:=Tryz.isAgg5
 z5:=Tryz.sizeOf5
 v5:=Tryz.zeroValue5
 t9:=Tryz.underlying9
 a9:=Tryz.isAgg9
 z9:=Tryz.sizeOf9
 v9:=Tryz.zeroValue9
 t20:=Tryz.underlying20
 a20:=Tryz.isAgg20
 z20:=Tryz.sizeOf20
 v20:=Tryz.zeroValue20
 t37:=Tryz.underlying143
 a37:=Tryz.isAgg143
 z37:=Tryz.sizeOf143
 v37:=Tryz.zeroValue143
 t46:=Tryz.underlying142
 a46:=Tryz.isAgg142
 z46:=Tryz.sizeOf142
 v46:=Tryz.zeroValue142
 t51:=Tryz.underlying175
 a51:=Tryz.isAgg175
 z51:=Tryz.sizeOf175
 v51:=Tryz.zeroValue175
 t53:=Tryz.underlying177
 a53:=Tryz.isAgg177
 z53:=Tryz.sizeOf177
 v53:=Tryz.zeroValue177
 t171:=Tryz.underlying266
 a171:=Tryz.isAgg266
 z171:=Tryz.sizeOf266
 v171:=Tryz.zeroValue266
 t173:=Tryz.underlying268
 a173:=Tryz.isAgg268
 z173:=Tryz.sizeOf268
 v173:=Tryz.zeroValue268
 t212:=Tryz.underlying287
 a212:=Tryz.isAgg287
 z212:=Tryz.sizeOf287
 v212:=Tryz.zeroValue287
 t213:=Tryz.underlying288
 a213:=Tryz.isAgg288
 z213:=Tryz.sizeOf288
 t232:=Tryz.underlying294
 a232:=Tryz.isAgg294
 z232:=Tryz.sizeOf294
 v232:=Tryz.zeroValue294
 t233:=Tryz.underlying295
 a233:=Tryz.isAgg295
 z233:=Tryz.sizeOf295
 v233:=Tryz.zeroValue295
 g17:=by kernel_rfl
 g18:=by kernel_rfl
 g19:=by kernel_rfl
 i0:=by kernel_rfl
 i2:=by kernel_rfl
 i3:=by kernel_rfl
 i4:=by kernel_rfl
 i5:=by kernel_rfl
 i9:=by kernel_rfl
 i20:=by kernel_rfl
 i37:=by kernel_rfl
 i46:=by kernel_rfl
 i51:=by kernel_rfl
 i53:=by kernel_rfl
 i171:=by kernel_rfl
 i173:=by kernel_rfl
 i212:=by kernel_rfl
 i232:=by kernel_rfl
 i233:=by kernel_rfl
 m17:=by kernel_rfl
 m18:=by kernel_rfl
 m19:=by kernel_rfl }
open Go.RowKit Go.Sort Go.Lib in
theorem Tryz.strconv_Itoa (n:Int) (h0 : -9223372036854775808<=n) (h1:n<=9223372036854775807) (w:World) (zX:Lib.TabIs Tryz.prog w "internal/strconv.uint64pow10" .u64 Lib.pow10Tab) :
  Calls Tryz.prog 195 #[.int .i64 n] w fun e w'=>e=.returned (.string ⟨(Lib.itoa n).toArray⟩)/\∃ k os,w'=grow (w.drewN k) os:=Any.strconv_Itoa Tryz.PL n h0 h1 w zX
def Tryz.Wb:Go.Shelf.Ren:=⟨fun | 219=>237 | 217=>235 | 225=>267 | 224=>268 | 267=>269 | 266=>266 | 314=>287 | n=>n,fun | 9=>9 | 3=>3 | 4=>4 | 5=>5 | 46=>142 | 146=>273 | 51=>175 | n=>n,fun | 1=>1 | n=>n⟩
def Tryz.Hl:Go.Shelf.Ren:=⟨fun | 143=>204 | 219=>237 | 217=>235 | 225=>267 | 224=>268 | 267=>269 | 266=>266 | 314=>287 | n=>n,fun | 9=>9 | 3=>3 | 4=>4 | 5=>5 | 46=>142 | 146=>273 | 51=>175 | n=>n,fun | 1=>1 | n=>n⟩
theorem Tryz.SI:Go.Proofs.Lays.n143 Tryz.prog Tryz.Hl:={
 mixed:=by kernel_rfl
 f143:=cx Tryz.func204
 f217:=cx Tryz.func235
 f219:=cx Tryz.func237
 f224:=cx Tryz.func268
 f225:=cx Tryz.func267
 f266:=cx Tryz.func266
 f267:=cx Tryz.func269
 f314:=cx Tryz.func287
 t3:=Tryz.underlying3
 a3:=Tryz.isAgg3
 z3:=Tryz.sizeOf3
 v3:=Tryz.zeroValue3
 t4:=Tryz.underlying4
 a4:=Tryz.isAgg4
 z4:=Tryz.sizeOf4
 v4:=Tryz.zeroValue4
 t5:=Tryz.underlying5
 a5:=Tryz.isAgg5
 z5:=Tryz.sizeOf5
 v5:=Tryz.zeroValue5
 t9:=Tryz.underlying9
 a9:=Tryz.isAgg9
 z9:=Tryz.sizeOf9
 v9:=Tryz.zeroValue9
 t46:=Tryz.underlying142
 a46:=Tryz.isAgg142
 z46:=Tryz.sizeOf142
 v46:=Tryz.zeroValue142
 t51:=Tryz.underlying175
 a51:=Tryz.isAgg175
 z51:=Tryz.sizeOf175
 v51:=Tryz.zeroValue175
 t146:=Tryz.underlying273
 a146:=Tryz.isAgg273
 z146:=Tryz.sizeOf273
 v146:=Tryz.zeroValue273
 g1:=by kernel_rfl }
open Go.RowKit Go.Lib in
theorem Tryz.strings_Index (s sub:ByteArray) (m:Int) (w:World) (hs:s.size < 4294967281) (hm:w.cell? ⟨1,0,none⟩=some (.int .i64 m)) :
  Calls Tryz.prog 204 #[.string s,.string sub] w fun e w'=>e=.returned (.int .i64 (Lib.index s.data.toList sub.data.toList))/\w'=w:=Any.strings_Index Tryz.SI s sub m w hs hm
def Tryz.Hm:Go.Shelf.Ren:=⟨fun | 189=>105 | 125=>142 | 257=>141 | 128=>183 | 129=>184 | 294=>174 | 295=>175 | 296=>176 | 297=>177 | 298=>178 | 299=>179 | 216=>180 | 300=>181 | 301=>182 | 328=>210 | 329=>211 | 330=>212 | 331=>213 | 332=>214 | 215=>215 | 343=>246 | n=>n,fun | 28=>40 | 3=>3 | 46=>142 | 0=>0 | 51=>175 | 53=>177 | 4=>4 | 183=>167 | 182=>166 | 131=>172 | 5=>5 | 9=>9 | 218=>210 | 222=>214 | 228=>242 | 229=>108 | n=>n,fun | n=>n⟩
theorem Tryz.ID:Go.Proofs.Lays.n189 Tryz.prog Tryz.Hm:={
 mixed:=by kernel_rfl
 f125:=cx Tryz.func142
 f128:=cx Tryz.func183
 f129:=cx Tryz.func184
 f189:=cx Tryz.func105
 f215:=cx Tryz.func215
 f216:=cx Tryz.func180
 f257:=cx Tryz.func141
 f294:=cx Tryz.func174
 f295:=cx Tryz.func175
 f296:=cx Tryz.func176
 f297:=cx Tryz.func177
 f298:=cx Tryz.func178
 f299:=cx Tryz.func179
 f300:=cx Tryz.func181
 f301:=cx Tryz.func182
 f328:=cx Tryz.func210
 f329:=cx Tryz.func211
 f330:=cx Tryz.func212
 f331:=cx Tryz.func213
 f332:=cx Tryz.func214
 f343:=cx Tryz.func246
 t0:=Tryz.underlying0
 a0:=Tryz.isAgg0
 z0:=Tryz.sizeOf0
 v0:=Tryz.zeroValue0
 t3:=Tryz.underlying3
 a3:=Tryz.isAgg3
 z3:=Tryz.sizeOf3
 v3:=Tryz.zeroValue3
 t4:=Tryz.underlying4
 a4:=Tryz.isAgg4
 z4:=Tryz.sizeOf4
 v4:=Tryz.zeroValue4
 t5:=Tryz.underlying5
 a5:=Tryz.isAgg5
 z5:=Tryz.sizeOf5
 v5:=Tryz.zeroValue5
 t9:=Tryz.underlying9
 a9:=Tryz.isAgg9
 z9:=Tryz.sizeOf9
 v9:=Tryz.zeroValue9
 t28:=Tryz.underlying40
 a28:=Tryz.isAgg40
 z28:=Tryz.sizeOf40
 v28:=Tryz.zeroValue40
 t46:=Tryz.underlying142
 a46:=Tryz.isAgg142
 z46:=Tryz.sizeOf142
 v46:=Tryz.zeroValue142
 t51:=Tryz.underlying175
 a51:=Tryz.isAgg175
 z51:=Tryz.sizeOf175
 v51:=Tryz.zeroValue175
 t53:=Tryz.underlying177
 a53:=Tryz.isAgg177
 z53:=Tryz.sizeOf177
 v53:=Tryz.zeroValue177
 t131:=Tryz.underlying172
 a131:=Tryz.isAgg172
 z131:=Tryz.sizeOf172
 v131:=Tryz.zeroValue172
 t182:=Tryz.underlying166
 a182:=Tryz.isAgg166
 z182:=Tryz.sizeOf166
 v182:=Tryz.zeroValue166
 t183:=Tryz.underlying167
 a183:=Tryz.isAgg167
 z183:=Tryz.sizeOf167
 v183:=Tryz.zeroValue167
 t218:=Tryz.underlying210
 a218:=Tryz.isAgg210
 z218:=Tryz.sizeOf210
 v218:=Tryz.zeroValue210
 t222:=Tryz.underlying214
 a222:=Tryz.isAgg214
 z222:=Tryz.sizeOf214
 v222:=Tryz.zeroValue214
 t228:=Tryz.underlying242
 a228:=Tryz.isAgg242
 z228:=Tryz.sizeOf242
 v228:=Tryz.zeroValue242
 t229:=Tryz.underlying108
 a229:=Tryz.isAgg108
 z229:=Tryz.sizeOf108
 v229:=Tryz.zeroValue108 }
open Go.Sort Go.RowKit in
theorem Tryz.slices_Sort_int (blk off cap:Nat) (zs:List Int) (w:World) (hH:Holds (Value.int .i64) w blk off zs.toArray) (dj:blk < w.heap.size) (cS:zs.length < 4611686018427387904) :
  Calls Tryz.prog 105 #[.slice (some ⟨blk,off,none⟩) zs.length cap] w fun e w' =>
   e=.returned (.tuple #[])/\∃ n os,w'=grow (putRow (Value.int .i64) (Sort.ahead w n) blk off (zs.mergeSort fun x y=>decide (x<=y)).toArray) os:=Any.slices_Sort_int Tryz.ID blk off cap zs w hH dj cS
def Tryz.Wa:Go.Shelf.Ren:=⟨fun | 157=>216 | 229=>247 | 199=>248 | 261=>274 | 311=>290 | 312=>291 | n=>n,fun | 9=>9 | 31=>22 | 3=>3 | 5=>5 | 4=>4 | 119=>244 | 0=>0 | 40=>246 | 152=>259 | 21=>21 | 154=>261 | 51=>175 | 141=>263 | 196=>278 | 193=>275 | 198=>281 | 49=>279 | 194=>276 | 201=>284 | 226=>290 | 46=>142 | 227=>291 | n=>n,fun | 0=>0 | 6=>2 | n=>n⟩
def Tryz.FD:Go.Shelf.Ren:=⟨fun | 157=>216 | 229=>247 | 199=>248 | 261=>274 | 311=>290 | 312=>291 | n=>n,fun | 9=>9 | 31=>22 | 3=>3 | 5=>5 | 4=>4 | 119=>244 | 0=>0 | 40=>246 | 152=>259 | 21=>21 | 154=>261 | 51=>175 | 141=>263 | 196=>278 | 193=>275 | 198=>281 | 49=>279 | 194=>276 | 201=>284 | 226=>290 | 46=>142 | 227=>291 | n=>n,fun | 0=>0 | 6=>2 | n=>n⟩
theorem Tryz.PK:Go.Proofs.LaysM.n157 Tryz.prog Tryz.FD:={
 mixed:=by kernel_rfl
 f157:=cx Tryz.func216
 f199:=cx Tryz.func248
 f229:=cx Tryz.func247
 f261:=cx Tryz.func274
 f311:=cx Tryz.func290
 f312:=cx Tryz.func291
 t0:=Tryz.underlying0
 a0:=Tryz.isAgg0
 z0:=Tryz.sizeOf0
 v0:=Tryz.zeroValue0
 t3:=Tryz.underlying3
 a3:=Tryz.isAgg3
 z3:=Tryz.sizeOf3
 v3:=Tryz.zeroValue3
 t4:=Tryz.underlying4
 a4:=Tryz.isAgg4
 z4:=Tryz.sizeOf4
 v4:=Tryz.zeroValue4
 t5:=Tryz.underlying5
 a5:=Tryz.isAgg5
 z5:=Tryz.sizeOf5
 v5:=Tryz.zeroValue5
 t9:=Tryz.underlying9
 a9:=Tryz.isAgg9
 z9:=Tryz.sizeOf9
 v9:=Tryz.zeroValue9
 t21:=Tryz.underlying21
 a21:=Tryz.isAgg21
 z21:=Tryz.sizeOf21
 v21:=Tryz.zeroValue21
 t31:=Tryz.underlying22
 a31:=Tryz.isAgg22
 z31:=Tryz.sizeOf22
 v31:=Tryz.zeroValue22
 t40:=Tryz.underlying246
 a40:=Tryz.isAgg246
 z40:=Tryz.sizeOf246
 v40:=Tryz.zeroValue246
 t46:=Tryz.underlying142
 a46:=Tryz.isAgg142
 z46:=Tryz.sizeOf142
 v46:=Tryz.zeroValue142
 t49:=Tryz.underlying279
 a49:=Tryz.isAgg279
 z49:=Tryz.sizeOf279
 v49:=Tryz.zeroValue279
 t51:=Tryz.underlying175
 a51:=Tryz.isAgg175
 z51:=Tryz.sizeOf175
 v51:=Tryz.zeroValue175
 t119:=Tryz.underlying244
 a119:=Tryz.isAgg244
 z119:=Tryz.sizeOf244
 t141:=Tryz.underlying263
 a141:=Tryz.isAgg263
 z141:=Tryz.sizeOf263
 v141:=Tryz.zeroValue263
 t152:=Tryz.underlying259
 a152:=Tryz.isAgg259
 z152:=Tryz.sizeOf259
 v152:=Tryz.zeroValue259
 t154:=Tryz.underlying261
 a154:=Tryz.isAgg261
 z154:=Tryz.sizeOf261
 v154:=Tryz.zeroValue261
 t193:=Tryz.underlying275
 a193:=Tryz.isAgg275
 z193:=Tryz.sizeOf275
 v193:=Tryz.zeroValue275
 t194:=Tryz.underlying276
 a194:=Tryz.isAgg276
 z194:=Tryz.sizeOf276
 v194:=Tryz.zeroValue276
 t196:=Tryz.underlying278
 a196:=Tryz.isAgg278
 z196:=Tryz.sizeOf278
 v196:=Tryz.zeroValue278
 t198:=Tryz.underlying281
 a198:=Tryz.isAgg281
 z198:=Tryz.sizeOf281
 v198:=Tryz.zeroValue281
 t201:=Tryz.underlying284
 a201:=Tryz.isAgg284
 z201:=Tryz.sizeOf284
 v201:=Tryz.zeroValue284
 t226:=Tryz.underlying290
 a226:=Tryz.isAgg290
 z226:=Tryz.sizeOf290
 v226:=Tryz.zeroValue290
 t227:=Tryz.underlying291
 a227:=Tryz.isAgg291
 z227:=Tryz.sizeOf291
 v227:=Tryz.zeroValue291
 g0:=by kernel_rfl
 g6:=by kernel_rfl
 i0:=by kernel_rfl
 i3:=by kernel_rfl
 i4:=by kernel_rfl
 i5:=by kernel_rfl
 i9:=by kernel_rfl
 i21:=by kernel_rfl
 i31:=by kernel_rfl
 i40:=by kernel_rfl
 i46:=by kernel_rfl
 i49:=by kernel_rfl
 i51:=by kernel_rfl
 i141:=by kernel_rfl
 i152:=by kernel_rfl
 i154:=by kernel_rfl
 i193:=by kernel_rfl
 i194:=by kernel_rfl
 i196:=by kernel_rfl
 i198:=by kernel_rfl
 i201:=by kernel_rfl
 i226:=by kernel_rfl
 i227:=by kernel_rfl
 m0:=by kernel_rfl
 m6:=by kernel_rfl }
open Go.RowKit Go.Lib in
theorem Tryz.strings_Fields_laid (s:ByteArray) (w:World) (hs:s.size < 4294967281) (Uu:∀ (j:Nat) b,s.data.toList[j]?=some b->b.toNat < 128) (zX:Lib.TabIs Tryz.prog w "strings.asciiSpace" .u8 Lib.asciiSpaceTab) :
  Calls Tryz.prog 216 #[.string s] w fun e w' =>
   e=.returned (.slice (some ⟨w.heap.size,0,none⟩) (Lib.fields s.data.toList).length (Lib.fields s.data.toList).length)/\w'=w.alloc (.cells ((Lib.fields s.data.toList).map fun l=>Value.string ⟨l.toArray⟩).toArray 9):=Any.strings_Fields_laid Tryz.PK s w hs Uu zX
def Tryz.DV:Go.Shelf.Ren:=⟨fun | 20=>106 | n=>n,fun | 22=>40 | 3=>3 | 4=>4 | 0=>0 | n=>n,fun | n=>n⟩
theorem Tryz.Dm:Go.Proofs.Lays2.n20 Tryz.prog Tryz.DV:={
 mixed:=by kernel_rfl
 f20:=cx Tryz.func106
 t0:=Tryz.underlying0
 a0:=Tryz.isAgg0
 z0:=Tryz.sizeOf0
 v0:=Tryz.zeroValue0
 t3:=Tryz.underlying3
 a3:=Tryz.isAgg3
 z3:=Tryz.sizeOf3
 v3:=Tryz.zeroValue3
 t4:=Tryz.underlying4
 a4:=Tryz.isAgg4
 z4:=Tryz.sizeOf4
 v4:=Tryz.zeroValue4
 t22:=Tryz.underlying40
 a22:=Tryz.isAgg40
 z22:=Tryz.sizeOf40
 v22:=Tryz.zeroValue40
 i3:=by kernel_rfl }
open Go.RowKit Go.Lib Go.Sort in
theorem Tryz.slices_Compact_int (blk off cap:Nat) (zs:List Int) (w:World) (hH:Holds (Value.int .i64) w blk off zs.toArray) (cS:zs.length<=9223372036854775807) (Pj:zs.length<=cap) :
  Calls Tryz.prog 106 #[.slice (some ⟨blk,off,none⟩) zs.length cap] w fun e w'=>e=.returned (.slice (some ⟨blk,off,none⟩) (Lib.compact zs).length cap)/\∃ q,w'=putRow (Value.int .i64) (Sort.ahead w q) blk off (Lib.compact zs++List.replicate (zs.length - (Lib.compact zs).length) 0).toArray:=Any.slices_Compact_int Tryz.Dm blk off cap zs w hH cS Pj
open Go.RowKit Go.Lib Go.Sort in
theorem Tryz.slices_Compact_int_empty (a:Option Addr) (cap:Nat) (w:World) :
  Calls Tryz.prog 106 #[.slice a 0 cap] w fun e w'=>e=.returned (.slice a 0 cap)/\w'=w:=Any.slices_Compact_int_empty Tryz.Dm a cap w
open Go.RowKit Go.Sort in
theorem Tryz.slices_Sort_int_none (p:Option Addr) (cap:Nat) (w:World) :
  Calls Tryz.prog 105 #[.slice p 0 cap] w fun e w'=>e=.returned (.tuple #[])/\w'=w:=Any.slices_Sort_int_none Tryz.ID p cap w
end Go.Proofs
set_option maxHeartbeats 1000000
namespace Go.Xg
open Go.RowKit Go.Xw Go.Proofs
attribute [local irreducible] GW GL GO YG GC GA aU aZ
instance:CH Tryz.prog 143 5:=CH.mk' (aj)
instance:BH Tryz.prog 225:=BH.mk' (e:=227) (aj) (aj)
theorem G7 (g:Value):GF Tryz.prog 263 [.loc 0 0] [.box 227 [.loc 0 0,.v g]] (.tup []) [.box 227 [.loc 0 0,.v g]]:=by
 refine ai Tryz.func263 Tryz.ntmps263 ?_;exact fT
theorem rW (s:ah) (n:Nat) (a:Option Addr) (c:Nat) (rows:List (List GV)) (hn:rows.length=n) (hb:n+s.length<=140737488355328) :
  GC Tryz.prog 229 [.loc 0 0,.v (sv s)] [.box 227 [.loc 0 0,.v (.slice a n c)],.vech 5 1 rows (.slice a n c)] (fun g aK=>(∃ x,g=.tup [.v (ii s.length),x])/\∃ a c,aK=[.box 227 [.loc 0 0,.v (.slice a (n+s.length) c)],.vech 5 1 (rows++cq s) (.slice a (n+s.length) c)]):=by
 subst hn;have h:=G7 (.slice a rows.length c)
 cases s with
 | nil =>
  refine ai Tryz.func229 Tryz.ntmps229 ?_;refine ab [0] h ?_;refine GL.Wf 1 rfl rfl rfl (by simpa using hb) ?_;refine bI ?_;refine ae ?_;refine yQ ?_;exact ⟨⟨_,rfl⟩,a,c,by simp [cq]⟩
 | cons x r =>
  generalize hs:x::r=s at *
  have bP:s.isEmpty=false:=by rw [<-hs];rfl
  clear hs;refine ai Tryz.func229 Tryz.ntmps229 ?_;refine ab [0] h ?_;refine GL.Wg 1 rfl rfl rfl aY bJ ag ?_;intro a2 c2;refine bI ?_;refine ae ?_;refine yQ ?_;exact ⟨⟨_,rfl⟩,a2,c2,rfl⟩
theorem OS (str:ah) (a:Option Addr) (c:Nat) (h0:str≠[]) (hb:str.length<=140737488355328) :
  GF Tryz.prog 230 [.loc 0 0] [.box 227 [.loc 0 0,.v (.slice a str.length c)],.vech 5 1 (cq str) (.slice a str.length c)] (.v (sv str)) [.box 227 [.loc 0 0,.v (.slice a str.length c)],.lost]:=by
 have hlen:(cq str).length=str.length:=by simp [cq]
 have hp:Nat.blt 0 str.length=true:=by simpa using List.length_pos_iff.2 h0
 have bP:str.isEmpty=false:=by cases str with | nil=>exact absurd rfl h0 | cons _ _=>rfl
 refine ai Tryz.func230 Tryz.ntmps230 ?_;refine aI (aB 0 10 (.a 10 (.q 11 .nil))) ?_;refine ar ?_;refine Lc ?_;refine ar ?_;exact av
end Go.Xg
namespace Go.Xg
open Go.RowKit Go.Xw Go.Proofs
open Go.Xp (bC)
theorem mh.pB {P:Program} {f:FuncId} {vs:List Value} {w:World} {R:Value->World->Prop} (h:Calls P f vs.toArray w fun e w'=>∃ v,e=.returned v/\R v w'):mh P f vs w R:=h
theorem GW.builder {Q:dB} {fr:List GV} {r1 r2:Nat} {rest:Code} {t8 t56 t57 t5:Tmp} {T1 T2 T3 T4 T5:TypeId} {p1 p2 p3:String} {a1 a2 a3:Array Edge} (n:Nat)
  (h8:jB fr t8=true) (XD:jB fr t56=true) (bP:Nat.beq t8 t56=false) (Zj:Nat.beq t5 t8=false) (hn:cE fr t5=.v (ii (n:Nat))) (hb:n<=281474976710656)
  (h:∀ a c,GW Tryz.prog 0 rest Q (bs (bs (bs fr t8 (.loc 0 0)) t56 (.v (ii (n:Nat)))) t57 (.v (.tuple #[]))) [.box 227 [.loc 0 0,.v (.slice a 0 c)],.vech 5 1 [] (.slice a 0 c)]) :
  GW Tryz.prog 0 (.seq (.region r1 [(⟨some t8,.alloc 227,T1,p1,a1,none⟩:Oper)].toArray false) (.seq (.region r2 [(⟨some t56,.move (.tmp t5),T2,p2,a2,none⟩:Oper),⟨some t57,.call ⟨.value (.func 228),[Operand.tmp t8,.tmp t56].toArray,#[T3,T4]⟩,T5,p3,a3,none⟩].toArray false) rest)) Q fr []:=fun B K β w l hm hI hF=>by
 have Fh:t8≠t56:=by intro e;subst e;simp at bP
 have Re:t5≠t8:=by intro e;subst e;simp at Zj
 have i8:=mz hF h8;have i56:=mz hF XD;refine W.seq (W.region (WL.alloc (t:=227) fun b w1 se=>WL.nil ?_));refine W.seq (W.region (WL.v R.mv (WL.call (f:=228) (BK:=[.pointer (some ⟨b,0,none⟩),.int .i64 n]) ?_ (R:=fun x w2=>x=.tuple #[]/\(Lib.BuilderAt 227 5 b b (.pointer (some ⟨b,0,none⟩)) [] w2/\Below b w1 w2)) ?_ fun x w2 hx=>WL.nil ?_)))
 ·have hF1:FR K (eZ β 0 (.fix b)) (bs fr t8 (.loc 0 0)) (put l (some t8) (.pointer (some ⟨b,0,none⟩))) :=
   (hF.mono (cl.refl K) (gM (i:=0) (x:=.fix b) (by rw [hI.out 0 (Nat.le_refl _)];trivial))).eT t8 (.loc 0 0 b bo)
  have j56:jB (eT l t8 (.pointer (some ⟨b,0,none⟩))) t56=true:=mz hF1 (t:=t56) (by rw [Iz];exact XD)
  have e5:nth (eT l t8 (.pointer (some ⟨b,0,none⟩))) t5=.int .i64 n:=by
   rw [nX Re];exact Rel.eC (by rw [<-hn];exact hF.nth t5)
  show [nth (eT (eT l t8 (.pointer (some ⟨b,0,none⟩))) t56 (nth (eT l t8 (.pointer (some ⟨b,0,none⟩))) t5)) t8,nth (eT (eT l t8 (.pointer (some ⟨b,0,none⟩))) t56 (nth (eT l t8 (.pointer (some ⟨b,0,none⟩))) t5)) t56]=_;rw [nX Fh,sD i8,sD j56,e5]
 ·refine mh.pB (Calls.mono (Tryz.Builder_Grow_fresh b b n w1 (Nat.le_refl _) se.blk (by have:=se.size;omega) hb) ?_);rintro e w' ⟨h1,h2⟩;exact ⟨_,h1,rfl,h2⟩
 ·obtain ⟨rfl,⟨_,v,lg,fb,vg⟩,EY⟩:=hx;have fb:gA w2 b 5 1 v 0 []:=fb;obtain ⟨a,c,rfl⟩:=fb.shape;have tY:=se.fresh;have gI:Ext gn w w2:=⟨EY.os.trans se.ext.os,EY.tape.trans se.ext.tape,EY.output.trans se.ext.output,Nat.le_trans se.ext.size EY.size,fun k hk hs=>(EY.block k ag).trans (se.ext.block k hk hs)⟩;have pj:=hI.same gI
  have b8:∀ i,β i=.no:=fun i=>hI.out i (Nat.zero_le _)
  have Up:∀ o,K b o=none:=fun o=>by
   cases hk:K b o with
   | none=>rfl
   | some g=>have:=hI.fz.lt hk;omega
  have X4:=hI.ext.size;have aap:=hI.tab.pow.lt;have mT:=hI.tab.spc.lt;have UJ:cY β (eZ β ([]:List Ob).length (.fix b)):=gM (by rw [b8];trivial)
  have Uo:=pj.QL (x:=.fix b) (y:=.box 227 [.loc 0 0,.v (.slice a 0 c)]) (fun b' bq=>by
   cases bq
   exact ⟨fun i hi=>(by rw [b8] at hi;cases hi),by omega,by omega,by omega⟩) (by
   refine ⟨b,[.pointer (some ⟨b,0,none⟩),.slice a 0 c],bo,lg,.cons (.loc 0 0 b bo) (.cons (.v _) .nil),Up⟩) UJ
  have A3:gA w2 0 5 1 (.slice a 0 c) 0 []:=fb.base (Nat.zero_le _)
  have Q2:∀ g,(Value.slice a 0 c).ownBlock=some g->b < g:=fun g hg=>by
   have h1:=(fb.lt hg).1
   have h2:g≠b:=fun e=>vg (by rw [hg,e])
   omega
  have ze:eZ β ([]:List Ob).length (.fix b) 1=.no:=by rw [bD aJ];exact b8 1
  have zV:cY (eZ β ([]:List Ob).length (.fix b)) (eZ (eZ β ([]:List Ob).length (.fix b)) 1 (.gr (.slice a 0 c) 0)):=gM (by rw [ze];trivial)
  have hI4:=Uo.QL (x:=.gr (.slice a 0 c) 0) (y:=.vech 5 1 [] (.slice a 0 c)) (fun g hg=>by
   have:=Q2 g hg;refine ⟨fun i hi=>?_,by omega,by omega,by omega⟩
   rcases lT hi with h1 | h1
   ·cases h1;omega
   ·rw [b8] at h1;cases h1) (by
   refine ⟨[],bo,A3,ba.nil,(fun r hr=>by cases hr),fun g hg o=>?_⟩
   cases hk:K g o with
   | none=>rfl
   | some y=>have:=hI.fz.lt hk;have:=Q2 g hg;omega) zV
  refine h a c B K _ w2 _ hm hI4 ?_;have hF2:=(hF.mono (cl.refl K) UJ).mono (cl.refl K) zV;refine ((hF2.eT t8 (.loc 0 0 b ?_)).eT t56 ?_).eT t57 (.v _)
  ·rw [bD aJ];exact bo
  ·have e5:nth (eT l t8 (.pointer (some ⟨b,0,none⟩))) t5=.int .i64 n:=by
    rw [nX Re];exact Rel.eC (by rw [<-hn];exact hF.nth t5)
   rw [show ev (put l (some t8) (.pointer (some ⟨b,0,none⟩))) (.tmp t5)=.int .i64 n from e5];exact .v _
attribute [local irreducible] GW GL GO YG GC GA aU aZ
theorem tS (a b:ah):cq (a++b)=cq a++cq b:=by simp [cq]
def mY (l:List ah):Nat:=(l.map List.length).sum
theorem Di:∀ (r:List ah) (x:ah),(bC (x::r)).length=mY (x::r)+2 * r.length
 | [],x=>by simp [bC,mY]
 | y::r,x=>by
  have:=Di r y;simp only [bC,mY,length_append,List.map_cons,sum_cons,List.flatMap_cons,length_cons] at this |-;omega
def gj (l:List ah):ah:=l.flatMap fun y=>44::32::y
theorem Mz (a b:List ah):gj (a++b)=gj a++gj b:=by unfold gj;rw [List.flatMap_append]
theorem Sy (l:List ah) (k:Nat):(gj (l.take k)).length<=(gj l).length:=by
 have:gj l=gj (l.take k)++gj (l.drop k):=by rw [<-Mz,List.take_append_drop]
 rw [this,length_append];omega
theorem Ug (y:ah):gj [y]=[44,32]++y:=by simp [gj]
theorem PA (x:ah) (r:List ah):bC (x::r)=x++gj r:=rfl
theorem Ls (l:List ah) (hb:(bC l).length<=1099511627776) (hl:l.length<=1099511627776):GF Tryz.prog 196 [strs l,.v (sv [44,32])] [] (.v (sv (bC l))) []:=by
 match l,hb,hl with
 | [],hb,hl =>
  refine ai Tryz.func196 Tryz.ntmps196 ?_;exact al
 | [x],hb,hl =>
  have hr:([x].map fun s=>[GV.v (sv s)])[0]?=some [.v (sv x)]:=rfl
  have e:bC [x]=x:=by simp [bC]
  rw [e];refine ai Tryz.func196 Tryz.ntmps196 ?_;exact al
 | x::y::r,hb,hl =>
  have oH:((x::y::r).map fun s=>[GV.v (sv s)])[0]?=some [.v (sv x)]:=rfl;have hlen:=Di (y::r) x
  have zp:x.length<=1099511627776:=by simp only [bC,length_append] at hb;omega
  generalize hL:(x::y::r)=l at *
  have jA:2<=l.length:=by rw [<-hL];simp
  have dI:(l.map fun s=>[GV.v (sv s)]).length=l.length:=by simp
  have ze:Nat.blt 1 (l.map fun s=>[GV.v (sv s)]).length=true:=by rw [dI];simpa [Nat.blt] using jA
  have C9:(((l.map fun s=>[GV.v (sv s)]).length:Int)==0)=false:=by rw [dI];simp only [beq_eq_false_iff_ne,ne_eq];omega
  have Fg:(((l.map fun s=>[GV.v (sv s)]).length:Int)==1)=false:=by rw [dI];simp only [beq_eq_false_iff_ne,ne_eq];omega
  have hq:decide ((9223372036854775807:Int) / (((l.map fun s=>[GV.v (sv s)]).length:Int) - 1)<=2)=false:=by
   rw [dI]
   have h3:(3:Int)<=9223372036854775807 / ((l.length:Int) - 1):=by
    rw [Int.le_ediv_iff_mul_le ag];omega
   simp;omega
  refine ai Tryz.func196 Tryz.ntmps196 ?_;apply GL.q
  ·exact YG.mul (a:=2) (b:=((l.map fun s=>[GV.v (sv s)]).length:Int) - 1) rfl rfl ag
  refine cr ?_;refine ae ?_;refine GW.range (l.map fun s=>[GV.v (sv s)]).length (fun k fr Γ=>fr=[strs l,.v (sv [44,32]),.U,.U,.U,.v (ii (0+2 * (((l.map fun s=>[GV.v (sv s)]).length:Int) - 1)+((mY (l.take k):Nat):Int))),.U,.U,.U,.U,.U,.U,.U,.U,.U,.U,.U,.U,.U,.U,.U,.U,.U,.U,.U,.U,.U,.U,.U,.U,.U,.U,.U,.U,.U,.U,.U,.U,.U,strs l,.v (ii ((l.map fun s=>[GV.v (sv s)]).length:Int)),.v (ii (k:Nat)),.U,.U,.U,.U,.U,.U,.U,.U,.U,.U,.U,.U,.U,.U,.U,.U,.U,.U,.U,.U,.U,.U,.U,.U,.U,.U,.U,.U,.U,.U,.U,.U,.U]/\Γ=[]) ?_ ag ?_ ?_ ?_
  ·refine ⟨_,_,Wk.aC (b7:=[strs l,.v (sv [44,32]),.U,.U,.U,.v (ii (0+2 * (((l.map fun s=>[GV.v (sv s)]).length:Int) - 1))),.U,.U,.U,.U,.U,.U,.U,.U,.U,.U,.U,.U,.U,.U,.U,.U,.U,.U,.U,.U,.U,.U,.U,.U,.U,.U,.U,.U,.U,.U,.U,.U,.U,strs l,.v (ii ((l.map fun s=>[GV.v (sv s)]).length:Int)),.v (ii (0:Nat)),.U,.U,.U,.U,.U,.U,.U,.U,.U,.U,.U,.U,.U,.U,.U,.U,.U,.U,.U,.U,.U,.U,.U,.U,.U,.U,.U,.U,.U,.U,.U,.U,.U]) aq,?_,rfl⟩;rw [List.take_zero,show ((mY []:Nat):Int)=0 from rfl,Int.add_zero]
  ·rintro k _ _ ⟨rfl,rfl⟩;exact dS
  ·rintro k _ _ ak ⟨rfl,rfl⟩;rw [dI] at ak
   have cI:l[k]?=some l[k]:=by simp [ak]
   have td:(l.map fun s=>[GV.v (sv s)])[k]?=some [.v (sv l[k])]:=by rw [getElem?_map,cI];rfl
   have hs:mY (l.take (k+1))=mY (l.take k)+l[k].length:=by unfold mY;rw [take_add_one,cI,map_append,List.sum_append];simp only [Option.toList,List.map_cons,map_nil,sum_cons,List.sum_nil,Nat.add_zero]
   have hle:mY (l.take (k+1))<=mY l:=by
    have:mY l=mY (l.take (k+1))+mY (l.drop (k+1)):=by
     unfold mY;rw [<-List.sum_append,<-map_append,List.take_append_drop]
    omega
   generalize l[k]=z at *;rw [show (0+2 * (((l.map fun s=>[GV.v (sv s)]).length:Int) - 1)+((mY (l.take (k+1)):Nat):Int))=0+2 * (((l.map fun s=>[GV.v (sv s)]).length:Int) - 1)+((mY (l.take k):Nat):Int)+(z.length:Int) by rw [hs];omega]
   have hov:decide (9223372036854775807 - (0+2 * (((l.map fun s=>[GV.v (sv s)]).length:Int) - 1)+((mY (l.take k):Nat):Int)) < (z.length:Int))=false:=by
    simp only [decide_eq_false_iff_not];omega
   refine ae ?_;exact ⟨rfl,rfl,_,_,Wk.aC aq,rfl,rfl⟩
  ·rintro _ _ ⟨rfl,rfl⟩;rw [dI,take_length]
   have hN:(0+2 * ((l.length:Int) - 1)+((mY l:Nat):Int))=(((bC l).length:Nat):Int):=by
    have:(y::r).length+1=l.length:=by rw [<-hL];simp
    omega
   rw [hN];refine bb ?_
   refine GW.builder (bC l).length rfl rfl rfl rfl rfl ag fun a c=>?_
   refine ae ?_;refine cm [0,1] (rW x 0 a c [] rfl ag) ?_;rintro _ _ ⟨⟨u1,rfl⟩,a1,c1,rfl⟩;refine cW ?_;refine ae ?_
   have key:∀ k,(x++gj ((y::r).take k)).length<=1099511627776:=fun k=>by
    have h1:=Sy (y::r) k;rw [<-hL,PA,length_append] at hb;rw [length_append];omega
   refine GW.range ((y::r).map fun s=>[GV.v (sv s)]).length (fun k fr Γ=>∃ acc a c,fr=[.U,.v (sv [44,32]),.U,.U,.U,.U,.U,.U,.loc 0 0,.U,.U,.U,.U,.U,.U,.U,.U,.U,.U,.U,.U,.U,.U,.U,.U,.U,.U,.U,.U,.U,.U,.U,.U,.U,.U,.U,.U,.U,.U,.U,.U,.U,.U,.U,.U,.U,.U,.U,.U,.U,.U,.U,.U,.U,.U,.U,.U,.U,.U,.U,.U,.U,.U,strs (y::r),.v (ii (((y::r).map fun s=>[GV.v (sv s)]).length:Int)),.v (ii (k:Nat)),.U,.U,.U,.U,.U,.U,.U,.U,.U]/\acc=x++gj ((y::r).take k)/\Γ=[.box 227 [.loc 0 0,.v (.slice a acc.length c)],.vech 5 1 (cq acc) (.slice a acc.length c)]) ?_ ?_ ?_ ?_ ?_
   ·rw [show 0+x.length=x.length from Nat.zero_add _];subst hL;exact ⟨_,_,Wk.aC aq,x,a1,c1,rfl,by simp [gj],rfl⟩
   ·have:((y::r).map fun s=>[GV.v (sv s)]).length+1=l.length:=by rw [<-hL];simp
    omega
   ·rintro k _ _ ⟨acc,a,c,rfl,_,rfl⟩;exact dS
   ·rintro k _ _ ak ⟨acc,a,c,rfl,kU,rfl⟩
    have ak:k < (y::r).length:=by simpa using ak
    have cI:(y::r)[k]?=some (y::r)[k]:=by simp [ak]
    have td:((y::r).map fun s=>[GV.v (sv s)])[k]?=some [.v (sv (y::r)[k])]:=by rw [getElem?_map,cI];rfl
    have bu:x++gj ((y::r).take (k+1))=(acc++[44,32])++(y::r)[k]:=by
     rw [take_add_one,cI,Mz,<-List.append_assoc,<-kU,List.append_assoc]
     congr 1
     exact Ug _
    have sd:=key k;have og:=key (k+1);rw [bu] at og;rw [<-kU] at sd;simp only [length_append,length_cons,length_nil] at og;generalize (y::r)[k]=z at *
    have WD:(cq acc).length=acc.length:=by simp [cq]
    refine ae ?_;refine cm [0,1] (rW [44,32] acc.length a c (cq acc) WD (by simp only [length_cons,length_nil];omega)) ?_;rintro _ _ ⟨⟨u1,rfl⟩,a2,c2,rfl⟩;refine cW ?_;rw [show cq acc++[[GV.v (.int .u8 ((44:UInt8).toNat:Int))],[GV.v (.int .u8 ((32:UInt8).toNat:Int))]]=cq (acc++[44,32]) by simp [cq],show acc.length+([44,32]:ah).length=(acc++[44,32]).length by simp];refine ae ?_;refine cm [0,1] (rW z (acc++[44,32]).length a2 c2 (cq (acc++[44,32])) (by simp [cq]) (by simp only [length_append,length_cons,length_nil];omega)) ?_;rintro _ _ ⟨⟨u2,rfl⟩,a3,c3,rfl⟩;refine cW ?_
    have ez:List.length (acc++[44,32])+List.length z=List.length ((acc++[44,32])++z):=by simp only [length_append]
    rw [<-tS,ez];refine ae ?_;exact ⟨rfl,rfl,_,_,Wk.aC aq,(acc++[44,32])++z,a3,c3,rfl,bu.symm,rfl⟩
   ·rintro _ _ ⟨acc,a,c,rfl,kU,rfl⟩
    have hj:bC l=acc:=by
     rw [kU,<-hL,show ((y::r).map fun s=>[GV.v (sv s)]).length=(y::r).length by simp,take_length];rfl
    rw [hj] at hb hlen |-
    have bP:acc≠[]:=by
     intro h0;rw [h0] at hlen;simp at hlen
    have Zv:=OS acc a c bP ag;refine ae ?_;refine ab [0,1] Zv ?_;exact al
end Go.Xg
set_option maxHeartbeats 4000000
namespace Go.Xg
open Go.RowKit Go.Xw Go.Proofs
open Go.Im
section
variable {P:Program} {m:Nat} {fr:List GV} {Γ:List Ob}
theorem Wk.keep {n j E k:Nat} {rows:List (List GV)} {x:Value} (hm:m<=n) (hnj:n<=j) (hl:zy n (Γ.take n)=true) (hlen:(Γ.take n).length=n) (bz:Γ[j]?=some (.vech E k rows x)) :
  Wk m fr Γ (TP n fr) (Γ.take n++[.vech E k rows x]):=fun B K β w l hB hI hF=>by
 have h:=hI.cut (n:=n) ag hl;obtain ⟨xs,o1,o2,o3,o4,o5⟩:=hI.ob j _ bz
 have Q5:∀ b,(Bk.gr x rows.length).blk=some b->(β j).blk=some b:=fun b hb=>by rw [o1];exact hb
 have Pk:fi (below n) β n=.no:=sE (yj (Nat.le_refl n));have hold:cY (fi (below n) β) (eZ (fi (below n) β) n (.gr x rows.length)):=gM (by rw [Pk];trivial)
 have b8:∀ b,(β j).blk=some b->∀ i,(fi (below n) β i).blk≠some b:=fun b hb i hi=>by
  by_cases fO:i < n
  ·rw [iu (yk fO)] at hi;have:=hI.dis i j b hi hb;omega
  ·rw [sE (yj ag)] at hi;cases hi
 refine ⟨K,eZ (fi (below n) β) n (.gr x rows.length),?_,(hF.res).mono (cl.refl K) hold⟩;refine ⟨h.ext,h.kle,h.ble.trans hold,h.loc,h.fz,fun i z hi=>?_,fun i hi=>?_,fun i i' b hi hj=>?_,fun i b hi=>?_,h.kn,⟨h.tab.le,h.tab.pow,h.tab.spc,fun i b hi=>?_⟩⟩
 ·by_cases sc:i < n
  ·rw [getElem?_append_left ag] at hi;exact (h.ob i z hi).ext (S:=gn) (Ext.refl w) (fun _ _ h=>h) (cl.refl K) hold (bD ag) (fun _ _ _ h=>h)
  ·have:i=n:=by have:=(List.getElem?_eq_some_iff.1 hi).1;rw [length_append,hlen,List.length_singleton] at this;omega
   subst this;rw [List.getElem?_append_right ag,hlen,Nat.sub_self] at hi;cases hi;refine ⟨xs,bo,o2,⟨o3.1,fun a v g h1 h2=>(o3.2 a v g h1 h2).pc ?_⟩,o4,o5⟩;obtain ⟨r,fX,df⟩:=List.mem_flatten.1 (mem_of_getElem? h2);exact (o4 r fX).2 g df
 ·rw [length_append,hlen,List.length_singleton] at hi;rw [bD ag];exact sE (yj ag)
 ·by_cases h1:i=n <;> by_cases h2:i'=n
  ·omega
  ·subst h1;rw [bo] at hi;rw [bD h2] at hj;exact absurd hj (b8 b (Q5 b hi) i')
  ·subst h2;rw [bo] at hj;rw [bD h1] at hi;exact absurd hi (b8 b (Q5 b hj) i)
  ·rw [bD h1] at hi;rw [bD h2] at hj;exact h.dis i i' b hi hj
 ·rcases lT hi with h1 | h1
  ·exact hI.own j b (Q5 b h1)
  ·exact h.own i b h1
 ·rcases lT hi with h1 | h1
  ·exact hI.tab.free j b (Q5 b h1)
  ·exact h.tab.free i b h1
end
theorem Inv.renew {B:Bs} {K:Fz} {β:Bt} {Γ:List Ob} {w w':World} {i E k:Nat} {rows rows':List (List GV)} {x:Value} {xs:List Value} (h:Inv B K β Γ w) (hi:Γ[i]?=some (.vech E k rows x)) (hl:rows'.length=rows.length)
  (ho:gA w' 0 E k x rows'.length xs) (hr:ba K β xs rows'.flatten) (eF:fy k rows') (hx:Ext (fun b=>x.ownBlock=some b) w w'):Inv B K β (oset Γ i (.vech E k rows' x)) w':=by
 obtain ⟨xs0,h1,h2,h3,h4,h5⟩:=h.ob i _ hi
 have ek:∀ b,x.ownBlock=some b->(β i).blk=some b:=fun b hb=>by rw [h1];exact hb
 rw [bd];refine ⟨h.ext.step hx (fun j hj=>(h.own i j (ek j hj)).symm),h.kle,h.ble,h.loc,h.fz.ext hx (fun b o g hg he=>by rw [h5 b he o] at hg;cases hg),fun j y hj=>?_,fun j hj=>h.out j (by simpa using hj),h.dis,h.own,h.kn,h.tab.step hx (fun j hj=>⟨i,ek j hj⟩) (cl.refl K) (fun i b2 h=>.inl ⟨i,h⟩)⟩;rw [List.getElem?_set] at hj;split at hj
 ·rename_i eQ;split at hj
  ·cases hj;subst eQ
   exact ⟨xs,by rw [hl];exact h1,ho,hr,eF,h5⟩
  ·cases hj
 ·rename_i eQ;exact (h.ob j y hj).ext hx (fun b hb he=>eQ (h.dis i j b (ek b he) hb)) (cl.refl K) (cY.refl β) rfl (fun _ _ _ h=>h)
theorem Dg (l:List Int):(bc l).flatten=l.map fun i=>GV.v (ii i):=by
 unfold bc
 induction l with
 | nil=>rfl
 | cons a l ih=>rw [List.map_cons,flatten_cons,ih];rfl
theorem eO (l:List Int):(bc l).length=l.length:=by simp [bc]
theorem IA (l:List Int):fy 1 (bc l):=fun r hr=>by
 obtain ⟨i,_,rfl⟩:=List.mem_map.1 hr;exact ⟨rfl,fun g hg=>by rw [List.mem_singleton.1 hg];rfl⟩
theorem DC {K:Fz} {β:Bt} (l:List Int):ba K β (l.map (Value.int .i64)) ((bc l).flatten):=by
 rw [Dg];refine ⟨by simp,fun i v g h1 h2=>?_⟩;rw [getElem?_map] at h1 h2
 cases hl:l[i]? with
 | none=>rw [hl] at h1;cases h1
 | some z=>rw [hl] at h1 h2;cases h1;cases h2;exact .v _
theorem xd {K:Fz} {β:Bt} {xs:List Value} {l:List Int} (h:ba K β xs ((bc l).flatten)):xs=l.map (Value.int .i64):=by
 rw [Dg] at h;apply List.ext_getElem?;intro i;rw [getElem?_map]
 cases hl:l[i]? with
 | none =>
  have:=h.1;rw [length_map] at this;have h2:=List.getElem?_eq_none_iff.1 hl;rw [getElem?_eq_none ag];rfl
 | some z =>
  obtain ⟨v,hv,hr⟩:=h.at (i:=i) (g:=.v (ii z)) (by rw [getElem?_map,hl];rfl);rw [hv,Rel.eC hr];rfl
theorem H7 {w:World} {g q:Nat} {d:Array Int} {os:Array Obj}:Ext (fun b=>b=g) w (Go.Sort.grow (Go.Sort.putRow (Value.int .i64) (Go.Sort.ahead w q) g 0 d) os):=by
 refine ⟨rfl,rfl,rfl,by simp [Go.Sort.grow,Go.Sort.putRow,Go.Sort.mapBlock,Go.Sort.ahead],fun k hk hn=>?_⟩;simp only [Go.Sort.grow,Go.Sort.putRow,Go.Sort.mapBlock,Go.Sort.ahead];rw [Array.getElem?_append_left (by simpa using hk),Array.getElem?_modify,if_neg ag]
theorem RF {K:Fz} {β:Bt} {vs:List Value} {x:Value} (h:ba K β vs [.v x]):vs=[x]:=by
 match vs,h.1 with
 | [v],_=>rw [Rel.eC h.nM.1]
theorem Lx (zs:List Int) (E:TypeId) (a:Option Addr) (c:Nat) (hz:zs.length<=1099511627776) :
  GF Tryz.prog 105 [.v (.slice a zs.length c)] [.vech E 1 (bc zs) (.slice a zs.length c)] (.tup []) [.vech E 1 (bc (gw zs)) (.slice a zs.length c)]:=fun B K β w vs hm hI hF=>by
 obtain rfl:=RF hF;obtain ⟨xs,h1,h2,h3,h4,h5⟩:=hI.ob 0 _ rfl;have px:=xd h3;subst px;rw [eO] at h2
 by_cases hn:(Value.slice a zs.length c)=.slice none 0 0
 ·injection hn with e1 e2 e3
  have Fx:zs=[]:=List.eq_nil_of_length_eq_zero e2;subst Fx;subst e1;refine mh.pB (Calls.mono (Tryz.slices_Sort_int_none none c w) ?_);rintro e w' ⟨he,rfl⟩;exact ⟨_,he,K,β,.tup [],_,hI,.tup [] [] rfl (fun i v g h=>by simp at h),rfl,by rw [show gw []=[] by simp [gw]]⟩
 ·obtain ⟨g,cap,hv,nB,XP,oG,wZ,hzl,hH⟩:=Go.Lib.holds_of_ownsRow h2 hn
  injection hv with e1 e2 e3
  subst e1;subst e3;refine mh.pB (Calls.mono (Tryz.slices_Sort_int g 0 c zs w hH XP ag) ?_);rintro e w' ⟨he,n,os,rfl⟩;have fb:=Go.Lib.ownsRow_putRow (q:=n) (k:=zs.length) (ys:=gw zs) h2 (nH zs) (Nat.le_refl _);rw [take_of_length_le (by rw [nH];exact Nat.le_refl _)] at fb;have J1:=Go.Lib.ownsRow_grow fb 0 os;refine ⟨_,he,K,β,.tup [],_,hI.renew (i:=0) rfl (rows':=bc (gw zs)) (xs:=(gw zs).map (Value.int .i64)) (by rw [eO,eO,nH]) ?_ (DC _) (IA _) ?_,.tup [] [] rfl (fun i v g h=>by simp at h),rfl,rfl⟩
  ·rw [eO,nH];exact J1
  ·exact (H7 (w:=w) (g:=g) (q:=n) (d:=(gw zs).toArray) (os:=os)).mono fun b _ hb=>by rw [hb];rfl
theorem Ql {K:Fz} {β:Bt} {g n c k:Nat} {rows:List (List GV)} (h:Rel K β (.slice (some ⟨g,0,none⟩) n c) (.sl k rows)) (bP:rows≠[]) :
  ∀ (i:Nat) r,rows[i]?=some r->r.length=k/\∀ (j:Nat) gg,r[j]?=some gg->K g (0+i * k+j)=some gg:=by
 generalize hv:Value.slice (some ⟨g,0,none⟩) n c=v at h
 cases h with
 | sl0 a c k=>exact absurd rfl bP
 | sl b o c k rows h hc =>
  injection hv with e1 e2 e3
  injection e1 with e1
  injection e1 with e1 e4
  subst e1;subst e4;exact h
theorem Lj (zs:List Int) (E:TypeId) (a:Option Addr) (c:Nat) (hz:zs.length<=1099511627776) (zg:(Go.Lib.compact zs).length<=zs.length) :
  GC Tryz.prog 106 [.v (.slice a zs.length c)] [.vech E 1 (bc zs) (.slice a zs.length c)] fun g Δ=>g=ints (Go.Lib.compact zs)/\∃ fz S,Δ=[.vec E 1 fz S]:=fun B K β w vs hm hI hF=>by
 obtain rfl:=RF hF;obtain ⟨xs,h1,h2,h3,h4,h5⟩:=hI.ob 0 _ rfl;have px:=xd h3;subst px;rw [eO] at h2
 by_cases Fx:zs=[]
 ·subst Fx;refine mh.pB (Calls.mono (Tryz.slices_Compact_int_empty a c w) ?_);rintro e w' ⟨he,rfl⟩;exact ⟨_,he,K,β,ints [],_,hI.yd (i:=0) rfl,.sl0 a c 1,rfl,_,_,rfl⟩
 ·have hn:(Value.slice a zs.length c)≠.slice none 0 0:=fun hn=>by
   injection hn with e1 e2 e3
   exact Fx (List.eq_nil_of_length_eq_zero e2)
  obtain ⟨g,cap,hv,nB,XP,oG,wZ,hzl,hH⟩:=Go.Lib.holds_of_ownsRow h2 hn
  injection hv with e1 e2 e3
  subst e1;subst e3;refine mh.pB (Calls.mono (Tryz.slices_Compact_int g 0 c zs w hH ag oG) ?_);rintro e w' ⟨he,q,rfl⟩;generalize hcz:Go.Lib.compact zs=cz at *;generalize Rp:cz++List.replicate (zs.length - cz.length) (0:Int)=ys at *
  have Fw:ys.length=zs.length:=by rw [<-Rp,length_append,List.length_replicate];omega
  have fb:=Go.Lib.ownsRow_putRow (q:=q) (k:=zs.length) (ys:=ys) h2 Fw (Nat.le_refl _);rw [take_of_length_le ag] at fb;have pj:=hI.renew (i:=0) rfl (rows':=bc ys) (xs:=ys.map (Value.int .i64)) (w':=Go.Sort.putRow (Value.int .i64) (Go.Sort.ahead w q) g 0 ys.toArray) (by rw [eO,eO,Fw]) (by rw [eO,Fw];exact fb) (DC _) (IA _)
   (by
    have:=(H7 (w:=w) (g:=g) (q:=q) (d:=ys.toArray) (os:=#[]));rw [Go.Sort.grow_empty] at this
    exact this.mono fun b _ hb=>by rw [hb];rfl)
  obtain ⟨K',hK,hr,Uo⟩:=pj.qb (i:=0) rfl;refine ⟨_,he,K',β,ints cz,_,Uo,?_,rfl,_,_,rfl⟩
  have jA:zs.length=(bc ys).length:=by rw [eO,Fw]
  rw [jA] at hr;have EZ:=Ql hr (fun e=>Fx (List.eq_nil_of_length_eq_zero (by rw [jA,e];rfl)))
  have Ux:cz.length=(cz.map fun i=>[GV.v (ii i)]).length:=by simp
  rw [Ux];refine .sl g 0 c 1 _ (fun i r h=>?_) (by rw [<-Ux];omega);refine EZ i r ?_;have hi:=(List.getElem?_eq_some_iff.1 h).1;rw [length_map] at hi;rw [<-Rp];unfold bc;rw [map_append,getElem?_append_left (by rw [length_map];exact hi)];exact h
end Go.Xg
namespace Go.Im
open Go.Xp Go.Sp
end Go.Im
namespace Go.Xg
open Go.RowKit Go.Xw Go.Proofs
open Go.Xp (Nd T Ar aP az bL)
open Go.Sp (Src)
open Go.Im
attribute [local irreducible] GW GL GO YG GC GA aU aZ
end Go.Xg
set_option maxHeartbeats 1000000
namespace Go.Xg
open Go.RowKit Go.Xw Go.Proofs
open Go.Xp (Tok Nd T bh one levels Ar)
open Go.Sp
attribute [local irreducible] GW GL GO YG GC GA aU aZ
theorem Wo (p:Src) (hp:p.nodes.length<=1000000000000) (hk:∀ n∈p.nodes,n.kids.length<=1000000000000):∀ (f a d:Nat) (e:Int),d<=801->oq p.nodes f a d=some e->GF Tryz.prog 188 [.agg (ax p),.v (ii (a:Nat)),.v (ii (d:Nat))] [] (.v (ii e)) []:=by
 intro f
 induction f using Nat.strongRecOn with
 | _ f ih =>
 intro a d e hd h
 cases f with
 | zero=>simp [oq] at h
 | succ f =>
 rw [oq] at h;refine da Tryz.func188 Tryz.ntmps188 ?_
 by_cases h1:p.nodes.length<=a
 ·rw [if_pos (.inl h1)] at h;cases h
  have cH:decide (((p.nodes.map ay).length:Int)<=(a:Int))=true:=by simpa using h1
  exact av
 have cH:decide (((p.nodes.map ay).length:Int)<=(a:Int))=false:=by simpa using h1
 by_cases h2:d > 800
 ·rw [if_pos (.inr h2)] at h;cases h
  have qp:decide ((800:Int) < (d:Int))=true:=by simpa using by omega
  exact av
 have qp:decide ((800:Int) < (d:Int))=false:=by simpa using by omega
 rw [if_neg ag] at h
 cases hn:p.nodes[a]? with
 | none=>rw [hn] at h;cases h
 | some n =>
 rw [hn] at h;simp only at h;have hr:=jT hn;have eR:=hk n (mem_of_getElem? hn);refine ae ?_
 refine GW.range (n.kids.map fun i=>[GV.v (ii i)]).length (fun k fr Γ=>∃ nx g,fr=[.U,.v (ii (a:Nat)),.v (ii (d:Nat)),.loc 0 0,.U,.U,.U,.v (ii nx),.U,.U,.U,.U,.U,.U,.U,.U,.U,.U,.U,.U,.U,.U,.U,.U,.U,.U,ints n.kids,.v (ii ((n.kids.map fun i=>[GV.v (ii i)]).length:Int)),.v (ii (k:Nat)),.U,.U,.U,.U,.U,.U,.U,.U,.U,.U,.U,.U,.U,.U,.U] /\
   Γ=[.box 34 (ax p)]/\0<=nx/\g<=f/\nt p.nodes g (n.kids.drop k) nx d=some e) ?_ (by simp;omega) ?_ ?_ ?_
 ·exact ⟨_,_,Wk.aC aq,_,f,rfl,rfl,by omega,Nat.le_refl _,h⟩
 ·rintro k _ _ ⟨_,_,rfl,rfl,_⟩;exact dS
 ·rintro k _ _ ak ⟨nx,g,rfl,rfl,pS,hg,h⟩
  have ak:k < n.kids.length:=by simpa using ak
  have hx:n.kids[k]?=some n.kids[k]:=by simp [ak]
  rw [drop_eq_getElem_cons ak] at h;generalize n.kids[k]=x at *;have rE:=pC hx
  cases g with
  | zero=>simp [nt] at h
  | succ g =>
  rw [nt] at h
  by_cases hxn:x=nx
  ·subst hxn;rw [if_pos rfl] at h
   have hb:(x != x)=false:=by simp
   cases cn:oq p.nodes g x.toNat (d+1) with
   | none=>rw [cn] at h;cases h
   | some y =>
   rw [cn] at h;simp only at h;have yC:=ih g ag x.toNat (d+1) y ag cn;rw [Int.toNat_of_nonneg pS] at yC
   by_cases hy:y < 0
   ·rw [if_pos hy] at h;cases h
    have U7:decide (y < (0:Int))=true:=by simpa using hy
    refine ae ?_;refine ab [] yC ?_;exact al
   ·rw [if_neg hy] at h
    have U7:decide (y < (0:Int))=false:=by simpa using hy
    refine ae ?_;refine ab [] yC ?_;exact ⟨rfl,rfl,_,_,Wk.aC aq,_,g,rfl,rfl,by omega,by omega,h⟩
  ·rw [if_neg hxn] at h;cases h
   have hb:(x != nx)=true:=by simpa using hxn
   exact av
 ·rintro _ _ ⟨nx,g,rfl,rfl,pS,hg,h⟩;rw [length_map,List.drop_length] at h
  have kU:nx=e:=by cases g <;> (rw [nt] at h;cases h;rfl)
  subst kU;exact av
theorem W7 (a n:Int) (s:ah) (ks:List Int) (l:List T) (hs:s.length<=1099511627776) (hl:l.length<=1099511627776) (ha:decide (a < 0)=false):GF Tryz.prog 217 [.agg (cT (.mk ⟨1,a,n,s,ks⟩ l))] [] (.v (.bool (bN (.mk ⟨1,a,n,s,ks⟩ l)))) []:=by
 have how:bN (.mk ⟨1,a,n,s,ks⟩ l)=(decide ((0:Int)<=n)&&(decide (n<=2147483647)&&((s==[])&&((l.length:Int)==0)))):=by unfold bN own;rw [if_neg (by show ¬ (decide (a < 0)=true);rw [ha];decide)];rfl
 rw [how];refine da Tryz.func217 Tryz.ntmps217 ?_
 cases h0:decide ((0:Int)<=n) with
 | false =>
  exact av
 | true =>
  cases h1:decide (n<=2147483647) with
  | false =>
   exact av
  | true =>
   cases h2:(s==[]) with
   | false =>
    exact av
   | true =>
    refine ae ?_;refine bR ?_;exact ⟨by first | rfl | (rw [aS];rfl),rfl⟩
theorem W8 (a:Int) (s:ah) (ks:List Int) (l:List T) (hs:s.length<=1099511627776) (hl:l.length<=1099511627776) (ha:decide (a < 0)=false):GF Tryz.prog 217 [.agg (cT (.mk ⟨2,a,0,s,ks⟩ l))] [] (.v (.bool (bN (.mk ⟨2,a,0,s,ks⟩ l)))) []:=by
 have how:bN (.mk ⟨2,a,0,s,ks⟩ l)=(bp s&&((l.length:Int)==0)):=by unfold bN own;rw [if_neg (by show ¬ (decide (a < 0)=true);rw [ha];decide)];rfl
 rw [how];refine da Tryz.func217 Tryz.ntmps217 ?_
 cases h0:bp s with
 | false =>
  refine ae ?_;have hc:=dX s hs;rw [h0] at hc;refine ab [] hc ?_;exact al
 | true =>
  refine ae ?_;have hc:=dX s hs;rw [h0] at hc;refine ab [] hc ?_;refine bR ?_;exact ⟨by first | rfl | (rw [aS];rfl),rfl⟩
theorem W9 (a:Int) (s:ah) (ks:List Int) (l:List T) (hs:s.length<=1099511627776) (hl:l.length<=1099511627776) (ha:decide (a < 0)=false):GF Tryz.prog 217 [.agg (cT (.mk ⟨3,a,0,s,ks⟩ l))] [] (.v (.bool (bN (.mk ⟨3,a,0,s,ks⟩ l)))) []:=by
 have how:bN (.mk ⟨3,a,0,s,ks⟩ l)=(bp s&&(((l.length:Int)==1)&&bj 1 0 l)):=by unfold bN own;rw [if_neg (by show ¬ (decide (a < 0)=true);rw [ha];decide)];rfl
 rw [how];refine da Tryz.func217 Tryz.ntmps217 ?_
 cases h0:bp s with
 | false =>
  refine ae ?_;have hc:=dX s hs;rw [h0] at hc;refine ab [] hc ?_;exact al
 | true =>
  cases h1:((l.length:Int)==1) with
  | false =>
   have cH:((((aR l).length:Int)==1))=false:=by rw [<-aS l] at h1;exact h1
   refine ae ?_;have hc:=dX s hs;rw [h0] at hc;refine ab [] hc ?_;exact al
  | true =>
   have cH:((((aR l).length:Int)==1))=true:=by rw [<-aS l] at h1;exact h1
   refine ae ?_;have hc:=dX s hs;rw [h0] at hc;refine ab [] hc ?_;have hc:=eY (.mk ⟨3,a,0,s,ks⟩ l) 1 hl;refine ab [] hc ?_;refine bR ?_;exact ⟨by first | rfl | (rw [aS];rfl),rfl⟩
theorem Xa (a:Int) (s:ah) (ks:List Int) (l:List T) (hs:s.length<=1099511627776) (hl:l.length<=1099511627776) (ha:decide (a < 0)=false):GF Tryz.prog 217 [.agg (cT (.mk ⟨4,a,0,s,ks⟩ l))] [] (.v (.bool (bN (.mk ⟨4,a,0,s,ks⟩ l)))) []:=by
 have how:bN (.mk ⟨4,a,0,s,ks⟩ l)=(bp s&&bj l.length 0 l):=by unfold bN own;rw [if_neg (by show ¬ (decide (a < 0)=true);rw [ha];decide)];rfl
 rw [how];refine da Tryz.func217 Tryz.ntmps217 ?_
 cases h0:bp s with
 | false =>
  refine ae ?_;have hc:=dX s hs;rw [h0] at hc;refine ab [] hc ?_;exact al
 | true =>
  refine ae ?_;have hc:=dX s hs;rw [h0] at hc;refine ab [] hc ?_;have hc:=eY (.mk ⟨4,a,0,s,ks⟩ l) (aR l).length hl;refine ab [] hc ?_;refine bR ?_;exact ⟨by first | rfl | (rw [aS];rfl),rfl⟩
theorem Xc (a:Int) (s:ah) (ks:List Int) (l:List T) (hs:s.length<=1099511627776) (hl:l.length<=1099511627776) (ha:decide (a < 0)=false):GF Tryz.prog 217 [.agg (cT (.mk ⟨6,a,0,s,ks⟩ l))] [] (.v (.bool (bN (.mk ⟨6,a,0,s,ks⟩ l)))) []:=by
 have how:bN (.mk ⟨6,a,0,s,ks⟩ l)=(eA s&&(((l.length:Int)==2)&&bj 2 0 l)):=by unfold bN own;rw [if_neg (by show ¬ (decide (a < 0)=true);rw [ha];decide)];rfl
 rw [how];refine da Tryz.func217 Tryz.ntmps217 ?_
 cases h0:eA s with
 | false =>
  refine ae ?_;have hc:=tt s;rw [h0] at hc;refine ab [] hc ?_;exact al
 | true =>
  cases h1:((l.length:Int)==2) with
  | false =>
   have cH:((((aR l).length:Int)==2))=false:=by rw [<-aS l] at h1;exact h1
   refine ae ?_;have hc:=tt s;rw [h0] at hc;refine ab [] hc ?_;exact al
  | true =>
   have cH:((((aR l).length:Int)==2))=true:=by rw [<-aS l] at h1;exact h1
   refine ae ?_;have hc:=tt s;rw [h0] at hc;refine ab [] hc ?_;have hc:=eY (.mk ⟨6,a,0,s,ks⟩ l) 2 hl;refine ab [] hc ?_;refine bR ?_;exact ⟨by first | rfl | (rw [aS];rfl),rfl⟩
theorem Xd (a:Int) (s:ah) (ks:List Int) (l:List T) (hs:s.length<=1099511627776) (hl:l.length<=1099511627776) (ha:decide (a < 0)=false):GF Tryz.prog 217 [.agg (cT (.mk ⟨7,a,0,s,ks⟩ l))] [] (.v (.bool (bN (.mk ⟨7,a,0,s,ks⟩ l)))) []:=by
 have how:bN (.mk ⟨7,a,0,s,ks⟩ l)=(bp s&&(((l.length:Int)==1)&&bj 1 0 l)):=by unfold bN own;rw [if_neg (by show ¬ (decide (a < 0)=true);rw [ha];decide)];rfl
 rw [how];refine da Tryz.func217 Tryz.ntmps217 ?_
 cases h0:bp s with
 | false =>
  refine ae ?_;have hc:=dX s hs;rw [h0] at hc;refine ab [] hc ?_;exact al
 | true =>
  cases h1:((l.length:Int)==1) with
  | false =>
   have cH:((((aR l).length:Int)==1))=false:=by rw [<-aS l] at h1;exact h1
   refine ae ?_;have hc:=dX s hs;rw [h0] at hc;refine ab [] hc ?_;exact al
  | true =>
   have cH:((((aR l).length:Int)==1))=true:=by rw [<-aS l] at h1;exact h1
   refine ae ?_;have hc:=dX s hs;rw [h0] at hc;refine ab [] hc ?_;have hc:=eY (.mk ⟨7,a,0,s,ks⟩ l) 1 hl;refine ab [] hc ?_;refine bR ?_;exact ⟨by first | rfl | (rw [aS];rfl),rfl⟩
theorem Xe (a:Int) (s:ah) (ks:List Int) (l:List T) (hs:s.length<=1099511627776) (hl:l.length<=1099511627776) (ha:decide (a < 0)=false):GF Tryz.prog 217 [.agg (cT (.mk ⟨8,a,0,s,ks⟩ l))] [] (.v (.bool (bN (.mk ⟨8,a,0,s,ks⟩ l)))) []:=by
 have how:bN (.mk ⟨8,a,0,s,ks⟩ l)=(bp s&&(((l.length:Int)==2)&&bj 2 0 l)):=by unfold bN own;rw [if_neg (by show ¬ (decide (a < 0)=true);rw [ha];decide)];rfl
 rw [how];refine da Tryz.func217 Tryz.ntmps217 ?_
 cases h0:bp s with
 | false =>
  refine ae ?_;have hc:=dX s hs;rw [h0] at hc;refine ab [] hc ?_;exact al
 | true =>
  cases h1:((l.length:Int)==2) with
  | false =>
   have cH:((((aR l).length:Int)==2))=false:=by rw [<-aS l] at h1;exact h1
   refine ae ?_;have hc:=dX s hs;rw [h0] at hc;refine ab [] hc ?_;exact al
  | true =>
   have cH:((((aR l).length:Int)==2))=true:=by rw [<-aS l] at h1;exact h1
   refine ae ?_;have hc:=dX s hs;rw [h0] at hc;refine ab [] hc ?_;have hc:=eY (.mk ⟨8,a,0,s,ks⟩ l) 2 hl;refine ab [] hc ?_;refine bR ?_;exact ⟨by first | rfl | (rw [aS];rfl),rfl⟩
theorem Vy (a:Int) (s:ah) (ks:List Int) (l:List T) (hs:s.length<=1099511627776) (hl:l.length<=1099511627776) (ha:decide (a < 0)=false):GF Tryz.prog 217 [.agg (cT (.mk ⟨10,a,0,s,ks⟩ l))] [] (.v (.bool (bN (.mk ⟨10,a,0,s,ks⟩ l)))) []:=by
 have how:bN (.mk ⟨10,a,0,s,ks⟩ l)=((s==[])&&(((l.length:Int)==2)&&bj 1 0 l)):=by unfold bN own;rw [if_neg (by show ¬ (decide (a < 0)=true);rw [ha];decide)];rfl
 rw [how];refine da Tryz.func217 Tryz.ntmps217 ?_
 cases h0:(s==[]) with
 | false =>
  exact av
 | true =>
  cases h1:((l.length:Int)==2) with
  | false =>
   have cH:((((aR l).length:Int)==2))=false:=by rw [<-aS l] at h1;exact h1
   exact av
  | true =>
   have cH:((((aR l).length:Int)==2))=true:=by rw [<-aS l] at h1;exact h1
   refine ae ?_;have hc:=eY (.mk ⟨10,a,0,s,ks⟩ l) 1 hl;refine ab [] hc ?_;refine bR ?_;exact ⟨by first | rfl | (rw [aS];rfl),rfl⟩
theorem Vz (a:Int) (s:ah) (ks:List Int) (l:List T) (hs:s.length<=1099511627776) (hl:l.length<=1099511627776) (ha:decide (a < 0)=false):GF Tryz.prog 217 [.agg (cT (.mk ⟨11,a,0,s,ks⟩ l))] [] (.v (.bool (bN (.mk ⟨11,a,0,s,ks⟩ l)))) []:=by
 have how:bN (.mk ⟨11,a,0,s,ks⟩ l)=((s==[])&&(((l.length:Int)==1)&&bj 1 0 l)):=by unfold bN own;rw [if_neg (by show ¬ (decide (a < 0)=true);rw [ha];decide)];rfl
 rw [how];refine da Tryz.func217 Tryz.ntmps217 ?_
 cases h0:(s==[]) with
 | false =>
  exact av
 | true =>
  cases h1:((l.length:Int)==1) with
  | false =>
   have cH:((((aR l).length:Int)==1))=false:=by rw [<-aS l] at h1;exact h1
   exact av
  | true =>
   have cH:((((aR l).length:Int)==1))=true:=by rw [<-aS l] at h1;exact h1
   refine ae ?_;have hc:=eY (.mk ⟨11,a,0,s,ks⟩ l) 1 hl;refine ab [] hc ?_;refine bR ?_;exact ⟨by first | rfl | (rw [aS];rfl),rfl⟩
theorem VA (a:Int) (s:ah) (ks:List Int) (l:List T) (hs:s.length<=1099511627776) (hl:l.length<=1099511627776) (ha:decide (a < 0)=false):GF Tryz.prog 217 [.agg (cT (.mk ⟨12,a,0,s,ks⟩ l))] [] (.v (.bool (bN (.mk ⟨12,a,0,s,ks⟩ l)))) []:=by
 have how:bN (.mk ⟨12,a,0,s,ks⟩ l)=((s==[])&&(((l.length:Int)==1)&&bj 1 0 l)):=by unfold bN own;rw [if_neg (by show ¬ (decide (a < 0)=true);rw [ha];decide)];rfl
 rw [how];refine da Tryz.func217 Tryz.ntmps217 ?_
 cases h0:(s==[]) with
 | false =>
  exact av
 | true =>
  cases h1:((l.length:Int)==1) with
  | false =>
   have cH:((((aR l).length:Int)==1))=false:=by rw [<-aS l] at h1;exact h1
   exact av
  | true =>
   have cH:((((aR l).length:Int)==1))=true:=by rw [<-aS l] at h1;exact h1
   refine ae ?_;have hc:=eY (.mk ⟨12,a,0,s,ks⟩ l) 1 hl;refine ab [] hc ?_;refine bR ?_;exact ⟨by first | rfl | (rw [aS];rfl),rfl⟩
theorem VB (a:Int) (s:ah) (ks:List Int) (l:List T) (hs:s.length<=1099511627776) (hl:l.length<=1099511627776) (ha:decide (a < 0)=false):GF Tryz.prog 217 [.agg (cT (.mk ⟨13,a,0,s,ks⟩ l))] [] (.v (.bool (bN (.mk ⟨13,a,0,s,ks⟩ l)))) []:=by
 have how:bN (.mk ⟨13,a,0,s,ks⟩ l)=(bp s&&(((l.length:Int)==1)&&bj 1 0 l)):=by unfold bN own;rw [if_neg (by show ¬ (decide (a < 0)=true);rw [ha];decide)];rfl
 rw [how];refine da Tryz.func217 Tryz.ntmps217 ?_
 cases h0:bp s with
 | false =>
  refine ae ?_;have hc:=dX s hs;rw [h0] at hc;refine ab [] hc ?_;exact al
 | true =>
  cases h1:((l.length:Int)==1) with
  | false =>
   have cH:((((aR l).length:Int)==1))=false:=by rw [<-aS l] at h1;exact h1
   refine ae ?_;have hc:=dX s hs;rw [h0] at hc;refine ab [] hc ?_;exact al
  | true =>
   have cH:((((aR l).length:Int)==1))=true:=by rw [<-aS l] at h1;exact h1
   refine ae ?_;have hc:=dX s hs;rw [h0] at hc;refine ab [] hc ?_;have hc:=eY (.mk ⟨13,a,0,s,ks⟩ l) 1 hl;refine ab [] hc ?_;refine bR ?_;exact ⟨by first | rfl | (rw [aS];rfl),rfl⟩
theorem Xb (a:Int) (s:ah) (ks:List Int) (l:List T) (hs:s.length<=1099511627776) (hl:l.length<=1099511627776) (ha:decide (a < 0)=false):GF Tryz.prog 217 [.agg (cT (.mk ⟨5,a,0,s,ks⟩ l))] [] (.v (.bool (bN (.mk ⟨5,a,0,s,ks⟩ l)))) []:=by
 have how:bN (.mk ⟨5,a,0,s,ks⟩ l)=((s==[45] || s==[33] || s==[126])&&(((l.length:Int)==1)&&bj 1 0 l)):=by unfold bN own;rw [if_neg (by show ¬ (decide (a < 0)=true);rw [ha];decide)];rfl
 rw [how];refine da Tryz.func217 Tryz.ntmps217 ?_
 cases h1:(s==[45]) with
 | true =>
  cases h4:((l.length:Int)==1) with
  | false =>
   have ME:(((aR l).length:Int)==1)=false:=by rw [<-aS l] at h4;exact h4
   exact av
  | true =>
   have ME:(((aR l).length:Int)==1)=true:=by rw [<-aS l] at h4;exact h4
   refine ae ?_;have hc:=eY (.mk ⟨5,a,0,s,ks⟩ l) 1 hl;refine ab [] hc ?_;exact al
 | false =>
  cases h2:(s==[33]) with
  | true =>
   cases h4:((l.length:Int)==1) with
   | false =>
    have ME:(((aR l).length:Int)==1)=false:=by rw [<-aS l] at h4;exact h4
    exact av
   | true =>
    have ME:(((aR l).length:Int)==1)=true:=by rw [<-aS l] at h4;exact h4
    refine ae ?_;have hc:=eY (.mk ⟨5,a,0,s,ks⟩ l) 1 hl;refine ab [] hc ?_;exact al
  | false =>
   cases h3:(s==[126]) with
   | false =>
    exact av
   | true =>
    cases h4:((l.length:Int)==1) with
    | false =>
     have ME:(((aR l).length:Int)==1)=false:=by rw [<-aS l] at h4;exact h4
     exact av
    | true =>
     have ME:(((aR l).length:Int)==1)=true:=by rw [<-aS l] at h4;exact h4
     refine ae ?_;have hc:=eY (.mk ⟨5,a,0,s,ks⟩ l) 1 hl;refine ab [] hc ?_;exact al
theorem Xf (a:Int) (s:ah) (ks:List Int) (l:List T) (hs:s.length<=1099511627776) (hl:l.length<=1099511627776) (ha:decide (a < 0)=false):GF Tryz.prog 217 [.agg (cT (.mk ⟨9,a,0,s,ks⟩ l))] [] (.v (.bool (bN (.mk ⟨9,a,0,s,ks⟩ l)))) []:=by
 have how:bN (.mk ⟨9,a,0,s,ks⟩ l)=((s==[])&&((((l.length:Int)==2) || ((l.length:Int)==3))&&bj 1 0 l)):=by unfold bN own;rw [if_neg (by show ¬ (decide (a < 0)=true);rw [ha];decide)];rfl
 rw [how];refine da Tryz.func217 Tryz.ntmps217 ?_
 cases h0:(s==[]) with
 | false =>
  exact av
 | true =>
  cases h1:((l.length:Int)==2) with
  | true =>
   have cH:(((aR l).length:Int)==2)=true:=by rw [<-aS l] at h1;exact h1
   refine ae ?_;have hc:=eY (.mk ⟨9,a,0,s,ks⟩ l) 1 hl;refine ab [] hc ?_;exact al
  | false =>
   have cH:(((aR l).length:Int)==2)=false:=by rw [<-aS l] at h1;exact h1
   cases h2:((l.length:Int)==3) with
   | true =>
    have qp:(((aR l).length:Int)==3)=true:=by rw [<-aS l] at h2;exact h2
    refine ae ?_;have hc:=eY (.mk ⟨9,a,0,s,ks⟩ l) 1 hl;refine ab [] hc ?_;exact al
   | false =>
    have qp:(((aR l).length:Int)==3)=false:=by rw [<-aS l] at h2;exact h2
    exact av
theorem VC (a:Int) (s:ah) (ks:List Int) (l:List T) (hs:s.length<=1099511627776) (hl:l.length<=1099511627776) (ha:decide (a < 0)=false):GF Tryz.prog 217 [.agg (cT (.mk ⟨14,a,0,s,ks⟩ l))] [] (.v (.bool (bN (.mk ⟨14,a,0,s,ks⟩ l)))) []:=by
 have how:bN (.mk ⟨14,a,0,s,ks⟩ l)=((l.all fun x=>fY x.n.kind)&&(s==[])):=by unfold bN own;rw [if_neg (by show ¬ (decide (a < 0)=true);rw [ha];decide)];rfl
 rw [how];refine ai Tryz.func217 Tryz.ntmps217 ?_;refine GW.range (aR l).length (fun k fr Γ=>∃ n,fr=[.U,.loc 0 0,.U,.loc 1 0,.U,.U,.U,.U,.U,.U,.U,.U,.U,.U,.U,.U,.U,.U,.U,.U,.U,.U,.U,.U,.U,.U,.U,.U,.U,.U,.U,.U,.U,.U,.U,.U,.U,.U,.U,.U,.U,.U,.U,.U,.U,.U,.U,.U,.U,.U,.U,.U,.U,.U,.U,.U,.U,.U,.U,.U,.U,.U,.U,.U,.U,.U,.U,.U,.U,.U,.U,.U,.U,.U,.U,.U,.U,.U,.U,.U,.U,.U,.U,.U,.U,.U,.U,.U,.U,.U,.U,.U,.U,.U,.U,.U,.U,.U,.U,.U,.U,.U,.U,.U,.U,.U,.U,.U,.U,.U,.U,.U,.U,.U,.U,.U,.U,.U,.U,.U,.U,.U,.U,.U,.U,.U,.U,.U,.U,.U,.U,.U,.U,.U,.U,.U,.U,.U,.U,.U,.U,.U,.U,.U,.U,.U,.U,.U,.U,.U,.U,.U,.U,.U,.U,.U,.U,.U,.U,.U,.U,.U,.U,.U,.U,.U,.U,.U,.U,.U,.U,.U,.U,.U,.U,.U,.sl 6 (aR l),.v (ii ((aR l).length:Int)),.v (ii (k:Nat)),.U,.U,.U,.U,.U,.U,.U,.U,.U,.U,.U,.U]/\Γ=[.box 94 (cT (.mk ⟨14,a,0,s,ks⟩ l)),.box 91 n]/\n=ay ⟨14,a,0,s,ks⟩/\((l.take k).all fun x=>fY x.n.kind)=true) ?_ (by rw [aS];exact hl) ?_ ?_ ?_
 ·exact ⟨_,_,Wk.aC aq,_,rfl,rfl,rfl,rfl⟩
 ·rintro k _ _ ⟨_,rfl,rfl,_⟩;exact dS
 ·rintro k _ _ hk ⟨_,rfl,rfl,rfl,hf⟩
  have hk:k < l.length:=by rw [aS] at hk;exact hk
  have hx:l[k]?=some l[k]:=by simp [hk]
  have hr:=cU hx;generalize l[k]=x at *;have he:=Hg x.n.kind
  cases hb:fY x.n.kind with
  | true =>
   rw [hb] at he;refine ae ?_;refine ab [] he ?_;exact ⟨rfl,rfl,_,_,(Wk.cut (n:=2) (Nat.le_of_ble_eq_true rfl) rfl).trans (Wk.aC aq),_,rfl,rfl,rfl,by rw [take_add_one,hx,all_append,hf];simp only [Option.toList,all_cons,all_nil,hb];rfl⟩
  | false =>
   rw [hb] at he;refine ae ?_;refine ab [] he ?_;refine bR ?_
   have ha:(l.all fun x=>fY x.n.kind)=false:=by
    rw [all_eq_false];exact ⟨x,mem_of_getElem? hx,by simp [hb]⟩
   rw [ha];exact ⟨rfl,rfl⟩
 ·rintro _ _ ⟨_,rfl,rfl,rfl,hf⟩
  have hf:(l.all fun x=>fY x.n.kind)=true:=by
   rw [take_of_length_le (by rw [aS];omega)] at hf;exact hf
  rw [hf];exact av
theorem Xk (k a n:Int) (s:ah) (ks:List Int) (l:List T) (hk:k=1\/k=2\/k=3\/k=4\/k=5\/k=6\/k=7\/k=8\/k=9\/k=10\/k=11\/k=12\/k=13\/k=14\/True) (hx:¬ (k=1\/k=2\/k=3\/k=4\/k=5\/k=6\/k=7\/k=8\/k=9\/k=10\/k=11\/k=12\/k=13\/k=14)) (ha:decide (a < 0)=false) (hn:(n != 0)=false):GF Tryz.prog 217 [.agg (cT (.mk ⟨k,a,n,s,ks⟩ l))] [] (.v (.bool (bN (.mk ⟨k,a,n,s,ks⟩ l)))) []:=by
 simp only [not_or] at hx;obtain ⟨h1,h2,h3,h4,h5,h6,h7,h8,h9,kZ,oC,n9,eH,AO⟩:=hx
 have h1:(k==1)=false:=by simpa using h1
 have h1x:(k != 1)=true:=by simp only [bne,h1];rfl
 have h2:(k==2)=false:=by simpa using h2
 have h3:(k==3)=false:=by simpa using h3
 have h4:(k==4)=false:=by simpa using h4
 have h5:(k==5)=false:=by simpa using h5
 have h6:(k==6)=false:=by simpa using h6
 have h7:(k==7)=false:=by simpa using h7
 have h8:(k==8)=false:=by simpa using h8
 have h9:(k==9)=false:=by simpa using h9
 have kZ:(k==10)=false:=by simpa using kZ
 have oC:(k==11)=false:=by simpa using oC
 have n9:(k==12)=false:=by simpa using n9
 have eH:(k==13)=false:=by simpa using eH
 have AO:(k==14)=false:=by simpa using AO
 have how:bN (.mk ⟨k,a,n,s,ks⟩ l)=false:=by
  show own ⟨k,a,n,s,ks⟩ _ _ _=_;simp [own,h1,h2,h3,h4,h5,h6,h7,h8,h9,kZ,oC,n9,eH,AO]
 rw [how];refine ai Tryz.func217 Tryz.ntmps217 ?_;exact al
theorem Xh (k a n:Int) (s:ah) (ks:List Int) (l:List T) (ha:decide (a < 0)=true):GF Tryz.prog 217 [.agg (cT (.mk ⟨k,a,n,s,ks⟩ l))] [] (.v (.bool (bN (.mk ⟨k,a,n,s,ks⟩ l)))) []:=by
 have how:bN (.mk ⟨k,a,n,s,ks⟩ l)=false:=by
  show own ⟨k,a,n,s,ks⟩ _ _ _=_;unfold own;rw [if_pos ha]
 rw [how];refine ai Tryz.func217 Tryz.ntmps217 ?_;exact al
theorem Xj (k a n:Int) (s:ah) (ks:List Int) (l:List T) (ha:decide (a < 0)=false) (hk:(k != 1)=true) (hn:(n != 0)=true):GF Tryz.prog 217 [.agg (cT (.mk ⟨k,a,n,s,ks⟩ l))] [] (.v (.bool (bN (.mk ⟨k,a,n,s,ks⟩ l)))) []:=by
 have how:bN (.mk ⟨k,a,n,s,ks⟩ l)=false:=by
  show own ⟨k,a,n,s,ks⟩ _ _ _=_;unfold own;rw [if_neg (by show ¬ (decide (a < 0)=true);rw [ha];decide),if_pos (by show ((k != 1)&&(n != 0))=true;rw [hk,hn];rfl)]
 rw [how];refine ai Tryz.func217 Tryz.ntmps217 ?_;exact al
theorem PG (t:T) (hs:t.n.s.length<=1099511627776) (hl:t.kids.length<=1099511627776):GF Tryz.prog 217 [.agg (cT t)] [] (.v (.bool (bN t))) []:=by
 obtain ⟨⟨k,a,n,s,ks⟩,l⟩:=t
 cases ha:decide (a < 0) with
 | true=>exact Xh k a n s ks l ha
 | false =>
 by_cases sd:k=1
 ·subst sd;exact W7 a n s ks l hs hl ha
 by_cases hn:n=0
 ·subst hn
  by_cases h:k=1\/k=2\/k=3\/k=4\/k=5\/k=6\/k=7\/k=8\/k=9\/k=10\/k=11\/k=12\/k=13\/k=14
  ·rcases h with rfl | rfl | rfl | rfl | rfl | rfl | rfl | rfl | rfl | rfl | rfl | rfl | rfl | rfl
   ·exact absurd rfl sd
   ·exact W8 a s ks l hs hl ha
   ·exact W9 a s ks l hs hl ha
   ·exact Xa a s ks l hs hl ha
   ·exact Xb a s ks l hs hl ha
   ·exact Xc a s ks l hs hl ha
   ·exact Xd a s ks l hs hl ha
   ·exact Xe a s ks l hs hl ha
   ·exact Xf a s ks l hs hl ha
   ·exact Vy a s ks l hs hl ha
   ·exact Vz a s ks l hs hl ha
   ·exact VA a s ks l hs hl ha
   ·exact VB a s ks l hs hl ha
   ·exact VC a s ks l hs hl ha
  ·exact Xk k a 0 s ks l (by simp) h ha rfl
 ·exact Xj k a n s ks l ha (by simpa using sd) (by simpa using hn)
theorem Lz (l:List T):bW l=l.all c7:=by
 induction l with
 | nil=>simp [bW]
 | cons a l ih=>simp [bW,ih]
theorem PF:∀ (sz:Nat) (t:T),SizeOf.sizeOf t<=sz->Gh t->GF Tryz.prog 189 [.agg (cT t)] [] (.v (.bool (c7 t))) []:=by
 intro sz
 induction sz with
 | zero=>intro t h _;cases t;simp at h
 | succ sz ih =>
 intro t cS iT;obtain ⟨n,l⟩:=t;have aaE:=iT;rw [Gh] at iT;obtain ⟨hs,hl,hm⟩:=iT
 have how:c7 (.mk n l)=(bW l&&bN (.mk n l)):=by rw [c7]
 rw [how];rw [Lz];refine ai Tryz.func189 Tryz.ntmps189 ?_;refine GW.range (aR l).length (fun k fr Γ=>fr=[.U,.loc 0 0,.U,.U,.U,.U,.sl 6 (aR l),.v (ii ((aR l).length:Int)),.v (ii (k:Nat)),.U,.U,.U,.U,.U,.U,.U,.U,.U]/\Γ=[.box 94 (cT (.mk n l))]/\((l.take k).all c7)=true) ?_ (by rw [aS];exact hl) ?_ ?_ ?_
 ·exact jy
 ·exact gx
 ·rintro k _ _ hk ⟨rfl,rfl,hf⟩
  have hk:k < l.length:=by rw [aS] at hk;exact hk
  have hx:l[k]?=some l[k]:=by simp [hk]
  have wg:=mem_of_getElem? hx;have ak:=List.sizeOf_lt_of_mem wg;have hr:=cU hx;have he:=ih l[k] (by simp at cS;omega) (Gj hm wg);generalize l[k]=x at *
  cases hb:c7 x with
  | true =>
   rw [hb] at he;refine ae ?_;refine ab [] he ?_;exact ⟨rfl,rfl,_,_,(Wk.cut (n:=1) (Nat.le_of_ble_eq_true rfl) rfl).trans (Wk.aC aq),rfl,rfl,by rw [take_add_one,hx,all_append,hf];simp only [Option.toList,all_cons,all_nil,hb];rfl⟩
  | false =>
   rw [hb] at he;refine ae ?_;refine ab [] he ?_;refine bR ?_
   have ha:(l.all c7)=false:=by
    rw [all_eq_false];exact ⟨x,mem_of_getElem? hx,by simp [hb]⟩
   rw [ha];exact ⟨rfl,rfl⟩
 ·rintro _ _ ⟨rfl,rfl,hf⟩
  have hf:(l.all c7)=true:=by
   rw [take_of_length_le (by rw [aS];omega)] at hf;exact hf
  rw [hf];refine ae ?_;refine ab [] (PG (.mk n l) hs hl) ?_;exact al
theorem PE (t:T) (h:Gh t):GF Tryz.prog 189 [.agg (cT t)] [] (.v (.bool (c7 t))) []:=PF _ t (Nat.le_refl _) h
structure Bw (p:Src):Prop where
 globals:p.globals.length<=1000000000000/\∀ s∈p.globals,s.length<=1000000000000
 arrays:p.arrays.length<=1000000000000/\∀ a∈p.arrays,a.name.length<=1000000000000
 fns:p.fns.length<=1000000000000/\∀ f∈p.fns,f.name.length<=1000000000000/\f.params.length<=1000000000000/\∀ s∈f.params,s.length<=1000000000000
 nodes:p.nodes.length<=1000000000000/\∀ n∈p.nodes,n.s.length<=1000000000000/\n.kids.length<=1000000000000
theorem I4 {l:List ah} {i:Nat} {s:ah} (h:l[i]?=some s):(l.map fun s=>[GV.v (sv s)])[i]?=some [.v (sv s)]:=by rw [getElem?_map,h];rfl
theorem F7 {l:List Ar} {i:Nat} {s:Ar} (h:l[i]?=some s):(l.map aD)[i]?=some (aD s):=by rw [getElem?_map,h];rfl
theorem Bo {l:List Go.Sp.Fn} {i:Nat} {s:Go.Sp.Fn} (h:l[i]?=some s):(l.map aw)[i]?=some (aw s):=by rw [getElem?_map,h];rfl
theorem uR {α:Type} {l:List α} {q:α->Bool} {k:Nat} {x:α} (hx:l[k]?=some x) (hb:q x=false):l.all q=false:=by
 rw [all_eq_false];exact ⟨x,mem_of_getElem? hx,by simp [hb]⟩
theorem Be (p:Src) (hp:Bw p) (b:Bool) (h:nY p=some b):GF Tryz.prog 151 [.agg (ax p)] [] (.v (.bool b)) []:=by
 unfold nY at h;refine ai Tryz.func151 Tryz.ntmps151 ?_;refine GW.range (p.globals.map fun s=>[GV.v (sv s)]).length (fun k fr Γ=>fr=[.U,.loc 0 0,.U,.v (ii 0),.U,.U,.U,.U,.U,.U,.U,.U,.U,.U,.U,strs p.globals,.v (ii ((p.globals.map fun s=>[GV.v (sv s)]).length:Int)),.v (ii (k:Nat)),.U,.U,.U,.U,.U,.U,.U,.U,.U,.U,.U,.U,.U,.U,.U,.U,.U,.U,.U,.U,.U,.U,.U,.U,.U,.U,.U,.U,.U,.U,.U,.U,.U,.U,.U,.U,.U,.U,.U,.U,.U,.U,.U,.U,.U,.U,.U,.U,.U,.U,.U,.U,.U,.U,.U,.U,.U,.U,.U,.U,.U,.U,.U,.U,.U,.U,.U,.U,.U,.U,.U,.U,.U,.U,.U,.U,.U,.U,.U,.U,.U,.U,.U,.U,.U,.U,.U]/\Γ=[.box 34 (ax p)]/\((p.globals.take k).all bp)=true) ?_ (by simpa using by have:=hp.globals.1;omega) ?_ ?_ ?_
 ·exact jy
 ·exact gx
 ·rintro k _ _ hk ⟨rfl,rfl,hf⟩
  have hk:k < p.globals.length:=by simpa using hk
  have hx:p.globals[k]?=some p.globals[k]:=by simp [hk]
  have hr:=I4 hx;have hl:=hp.globals.2 _ (mem_of_getElem? hx);generalize p.globals[k]=x at *;have he:=dX x ag
  cases hb:bp x with
  | true =>
   rw [hb] at he;refine ae ?_;refine ab [] he ?_;exact ⟨rfl,rfl,_,_,Wk.aC aq,rfl,rfl,sP hx hf hb⟩
  | false =>
   rw [hb] at he;rw [if_pos (show cw p.globals=false from uR hx hb)] at h;cases h;refine ae ?_;refine ab [] he ?_;exact al
 ·rintro _ _ ⟨rfl,rfl,hf⟩;rw [take_of_length_le (by simp)] at hf;rw [if_neg (by rw [show cw p.globals=true from hf];decide)] at h;refine ae ?_;refine GW.range (p.arrays.map aD).length (fun k fr Γ=>fr=[.U,.loc 0 0,.U,.v (ii 0),.U,.U,.U,.U,.U,.U,.U,.U,.U,.U,.U,.U,.U,.U,.U,.U,.U,.U,.U,.U,.U,.U,.sl 2 (p.arrays.map aD),.v (ii ((p.arrays.map aD).length:Int)),.v (ii (k:Nat)),.U,.U,.U,.U,.U,.U,.U,.U,.U,.U,.U,.U,.U,.U,.U,.U,.U,.U,.U,.U,.U,.U,.U,.U,.U,.U,.U,.U,.U,.U,.U,.U,.U,.U,.U,.U,.U,.U,.U,.U,.U,.U,.U,.U,.U,.U,.U,.U,.U,.U,.U,.U,.U,.U,.U,.U,.U,.U,.U,.U,.U,.U,.U,.U,.U,.U,.U,.U,.U,.U,.U,.U,.U,.U,.U,.U]/\Γ=[.box 34 (ax p)]/\((p.arrays.take k).all oo)=true) ?_ (by simpa using by have:=hp.arrays.1;omega) ?_ ?_ ?_
  ·exact jy
  ·exact gx
  ·rintro k _ _ hk ⟨rfl,rfl,hf⟩
   have hk:k < p.arrays.length:=by simpa using hk
   have hx:p.arrays[k]?=some p.arrays[k]:=by simp [hk]
   have hr:=F7 hx;have hl:=hp.arrays.2 _ (mem_of_getElem? hx);generalize p.arrays[k]=x at *;have he:=dX x.name ag
   cases hb:bp x.name with
   | false =>
    rw [hb] at he;rw [if_pos (uR hx (by simp [oo,hb]))] at h;cases h;refine ae ?_;refine ab [] he ?_;exact al
   | true =>
    rw [hb] at he
    cases h1:decide (x.size < 0) with
    | true =>
     rw [if_pos (uR hx (by simp only [oo,hb,h1];rfl))] at h;cases h;refine ae ?_;refine ab [] he ?_;exact al
    | false =>
     cases h2:decide (2147483647 < x.size) with
     | true =>
      rw [if_pos (uR hx (by simp only [oo,hb,h1,h2];rfl))] at h;cases h;refine ae ?_;refine ab [] he ?_;exact al
     | false =>
      refine ae ?_;refine ab [] he ?_;exact ⟨rfl,rfl,_,_,(Wk.cut (n:=1) (Nat.le_of_ble_eq_true rfl) rfl).trans (Wk.aC aq),rfl,rfl,sP hx hf (by simp only [oo,hb,h1,h2];rfl)⟩
  ·rintro _ _ ⟨rfl,rfl,hf⟩;rw [take_of_length_le (by simp)] at hf;rw [if_neg (by rw [hf];decide)] at h;refine ae ?_;refine GW.range (p.fns.map aw).length (fun k fr Γ=>∃ nx,fr=[.U,.loc 0 0,.U,.v (ii nx),.U,.U,.U,.U,.U,.U,.U,.U,.U,.U,.U,.U,.U,.U,.U,.U,.U,.U,.U,.U,.U,.U,.U,.U,.U,.U,.U,.U,.U,.U,.U,.U,.U,.U,.U,.U,.U,.U,.U,.U,.U,.U,.U,.U,.sl 3 (p.fns.map aw),.v (ii ((p.fns.map aw).length:Int)),.v (ii (k:Nat)),.U,.U,.U,.U,.U,.U,.U,.U,.U,.U,.U,.U,.U,.U,.U,.U,.U,.U,.U,.U,.U,.U,.U,.U,.U,.U,.U,.U,.U,.U,.U,.U,.U,.U,.U,.U,.U,.U,.U,.U,.U,.U,.U,.U,.U,.U,.U,.U,.U,.U,.U,.U,.U,.U]/\Γ=[.box 34 (ax p)]/\0<=nx/\(match fQ p.nodes (p.fns.drop k) nx with | none=>none | some none=>some false | some (some next)=>some (next==(p.nodes.length:Int)&&decide (next<=800)))=some b) ?_ (by simpa using by have:=hp.fns.1;omega) ?_ ?_ ?_
   ·exact ⟨_,_,Wk.aC aq,_,rfl,rfl,Int.le_refl _,h⟩
   ·rintro k _ _ ⟨_,rfl,rfl,_⟩;exact dS
   ·clear h hf;rintro k _ _ hk ⟨nx,rfl,rfl,pS,h⟩
    have hk:k < p.fns.length:=by simpa using hk
    have hx:p.fns[k]?=some p.fns[k]:=by simp [hk]
    have hr:=Bo hx;have hl:=hp.fns.2 _ (mem_of_getElem? hx);rw [drop_eq_getElem_cons hk,fQ] at h;generalize p.fns[k]=x at *
    cases he:oq p.nodes (fN p.nodes) nx.toNat 0 with
    | none=>rw [he] at h;cases h
    | some e =>
    rw [he] at h;simp only at h;have oW:=Wo p hp.nodes.1 (fun n hn=>(hp.nodes.2 n hn).2) _ _ 0 _ ag he;rw [Int.toNat_of_nonneg pS] at oW;have b8:=dX x.name ag
    by_cases h1:x.body=nx
    ·have cH:(x.body != nx)=false:=by simpa using h1
     cases hb:bp x.name with
     | false =>
      rw [hb] at b8;rw [if_pos (.inr (.inl hb))] at h;cases h;refine ae ?_;refine ab [] oW ?_;refine ab [] b8 ?_;exact al
     | true =>
      rw [hb] at b8
      by_cases h2:e < 0
      ·have qp:decide (e < 0)=true:=by simpa using h2
       rw [if_pos (.inr (.inr h2))] at h;cases h;refine ae ?_;refine ab [] oW ?_;refine ab [] b8 ?_;exact al
      ·have qp:decide (e < 0)=false:=by simpa using h2
       rw [if_neg (by rw [hb];simp [h1,h2])] at h;refine ae ?_;refine ab [] oW ?_;refine ab [] b8 ?_;refine GW.range (x.params.map fun s=>[GV.v (sv s)]).length (fun j fr Γ=>fr=[.U,.loc 0 0,.U,.v (ii nx),.U,.U,.U,.U,.U,.loc 1 0,.v (ii e),.U,.U,.U,.U,.U,.U,.U,.U,.U,.U,.U,.U,.U,.U,.U,.U,.U,.U,.U,.U,.U,.U,.U,.U,.U,.U,.U,.U,.U,.U,.U,.U,.U,.U,.U,.U,.U,.sl 3 (p.fns.map aw),.v (ii ((p.fns.map aw).length:Int)),.v (ii (k:Nat)),.U,.U,.U,.U,.U,.U,.U,.U,.U,.U,.U,.U,.U,.U,.U,.U,.U,.U,.U,.U,.U,strs x.params,.v (ii ((x.params.map fun s=>[GV.v (sv s)]).length:Int)),.v (ii (j:Nat)),.U,.U,.U,.U,.U,.U,.U,.U,.U,.U,.U,.U,.U,.U,.U,.U,.U,.U,.U,.U,.U,.U,.U,.U,.U,.U,.U,.U,.U,.U]/\Γ=[.box 34 (ax p),.box 60 (aw x)]/\((x.params.take j).all bp)=true) ?_ (by simpa using by omega) ?_ ?_ ?_
       ·exact jy
       ·exact gx
       ·rintro j _ _ hj ⟨rfl,rfl,hf⟩
        have hj:j < x.params.length:=by simpa using hj
        have px:x.params[j]?=some x.params[j]:=by simp [hj]
        have Ri:=I4 px;have my:=hl.2.2 _ (mem_of_getElem? px);generalize x.params[j]=y at *;have bO:=dX y ag
        cases hb:bp y with
        | true =>
         rw [hb] at bO;refine ae ?_;refine ab [] bO ?_;exact ⟨rfl,rfl,_,_,Wk.aC aq,rfl,rfl,sP px hf hb⟩
        | false =>
         rw [hb] at bO;rw [if_pos (show cw x.params=false from uR px hb)] at h;cases h;refine ae ?_;refine ab [] bO ?_;exact al
       ·rintro _ _ ⟨rfl,rfl,hf⟩;rw [take_of_length_le (by simp)] at hf;rw [if_neg (by rw [show cw x.params=true from hf];decide)] at h
        cases hs:sub p.nodes (fN p.nodes) nx.toNat with
        | none=>rw [hs] at h;cases h
        | some t =>
        rw [hs] at h;simp only at h;have pU:=D8 p (fun n hn=>(hp.nodes.2 n hn).2) _ _ _ hs;rw [Int.toNat_of_nonneg pS] at pU;have aQ:=PE t ((VW (fun n hn=>by have:=hp.nodes.2 n hn;omega) _).1 _ _ hs)
        by_cases h3:t.n.kind=14
        ·have jX:(t.n.kind != 14)=false:=by simpa using h3
         cases hb:c7 t with
         | false =>
          rw [hb] at aQ;rw [if_pos (.inr hb)] at h;cases h;refine ae ?_;refine ab [] pU ?_;refine ab [] aQ ?_;exact al
         | true =>
          rw [hb] at aQ;rw [if_neg (by rw [hb];simp [h3])] at h;refine ae ?_;refine ab [] pU ?_;refine ab [] aQ ?_;exact ⟨rfl,rfl,_,_,(Wk.cut (n:=1) (Nat.le_of_ble_eq_true rfl) rfl).trans (Wk.aC aq),_,rfl,rfl,by omega,h⟩
        ·have jX:(t.n.kind != 14)=true:=by simpa using h3
         rw [if_pos (.inl h3)] at h;cases h;refine ae ?_;refine ab [] pU ?_;exact al
    ·have cH:(x.body != nx)=true:=by simpa using h1
     rw [if_pos (.inl h1)] at h;cases h;refine ae ?_;refine ab [] oW ?_;exact al
   ·clear h hf;rintro _ _ ⟨nx,rfl,rfl,pS,h⟩;rw [length_map,List.drop_length,fQ] at h;simp only at h;cases h
    cases h1:(nx==(p.nodes.length:Int)) with
    | false =>
     have cH:(nx==((p.nodes.map ay).length:Int))=false:=by rw [length_map];exact h1
     exact av
    | true =>
     have cH:(nx==((p.nodes.map ay).length:Int))=true:=by rw [length_map];exact h1
     exact av
def mQ (k:Int) (s:ah):Int:=if k=6 then (match levels.findIdx? (fun l=>l.contains s) with | some i=>(i:Int) | none => -1) else 9
theorem Kd (t:T):GF Tryz.prog 277 [.agg (cT t)] [] (.v (.int .i64 (mQ t.n.kind t.n.s))) []:=by
 refine da Tryz.func277 Tryz.ntmps277 ?_
 by_cases h6:t.n.kind=6
 ·have h6':(t.n.kind != 6)=false:=by simpa using h6
  unfold mQ;rw [if_pos h6];refine ae ?_;refine ab [] jC ?_;refine GW.range (levels.map fun l=>[strs l]).length (fun k fr Γ=>fr=[.U,.loc 0 0,.U,.U,.U,.U,.U,.U,.U,.U,.U,.sl 1 (levels.map fun l=>[strs l]),.v (ii ((levels.map fun l=>[strs l]).length:Int)),.v (ii (k:Nat)),.U,.U,.U,.U,.U,.U,.U,.U,.U,.U,.U]/\Γ=[.box 94 (cT t)]/\((levels.take k).any fun l=>l.contains t.n.s)=false) ?_ aJ ?_ ?_ ?_
  ·exact jy
  ·exact gx
  ·rintro k _ _ hk ⟨rfl,rfl,hf⟩
   have hk:k < levels.length:=by simpa using hk
   have hx:levels[k]?=some levels[k]:=by simp [hk]
   have hr:(levels.map fun l=>[strs l])[k]?=some [strs levels[k]]:=by simp [hk]
   have zp:levels[k].length<=1099511627776:=by
    have:∀ l∈levels,l.length<=1099511627776:=by decide
    exact this _ (getElem_mem hk)
   have zh:levels[k].contains t.n.s=true->levels.findIdx? (fun l=>l.contains t.n.s)=some k:=by
    intro hc;rw [List.findIdx?_eq_some_iff_getElem];refine ⟨hk,hc,fun j hj=>?_⟩;rw [List.any_eq_false] at hf;refine hf _ ?_;rw [List.mem_take_iff_getElem];exact ⟨j,by omega,rfl⟩
   generalize levels[k]=x at *;have hh:=jj x t.n.s zp
   cases hb:x.contains t.n.s with
   | true =>
    rw [hb] at hh;rw [zh hb];refine ae ?_;refine ab [] hh ?_;exact al
   | false =>
    rw [hb] at hh;refine ae ?_;refine ab [] hh ?_;exact ⟨rfl,rfl,_,_,Wk.aC aq,rfl,rfl,by rw [take_add_one,hx,List.any_append,hf];simp only [Option.toList,List.any_cons,List.any_nil,hb];rfl⟩
  ·rintro _ _ ⟨rfl,rfl,hf⟩;rw [take_of_length_le (by simp)] at hf
   have hn:levels.findIdx? (fun l=>l.contains t.n.s)=none:=by
    rw [List.findIdx?_eq_none_iff];intro x hx;rw [List.any_eq_false] at hf;simpa using hf x hx
   rw [hn];exact av
 ·have h6':(t.n.kind != 6)=true:=by simpa using h6
  unfold mQ;rw [if_neg h6];refine ae ?_;refine ab [] jC ?_;exact al
end Go.Xg
namespace Go.Xg
open Go.RowKit Go.Xw Go.Proofs
open Go.Xp (Tok Nd T bh one levels Ar yT cB oV)
open Go.Sp
attribute [local irreducible] GW GL GO YG GC GA aU aZ
theorem R4 (n:Int):GF Tryz.prog 300 [.v (ii n)] [] (.v (ii (n % 4294967296))) []:=by
 refine ai Tryz.func300 Tryz.ntmps300 ?_;exact al
theorem TF (n:Int):GF Tryz.prog 292 [.v (ii n)] [] (.v (ii (yT n))) []:=by
 unfold yT
 have hb:0<=n % 4294967296/\n % 4294967296 < 4294967296:=by omega
 have hp:=R4 n;generalize n % 4294967296=m at *;refine da Tryz.func292 Tryz.ntmps292 ?_
 by_cases h:m > 2147483647
 ·have h':decide ((2147483647:Int) < m)=true:=by simpa using h
  rw [if_pos h];refine ae ?_;refine ab [] hp ?_;exact al
 ·have h':decide ((2147483647:Int) < m)=false:=by simpa using h
  rw [if_neg h];refine ae ?_;refine ab [] hp ?_;exact al
theorem x6 (k:Nat) (h:k<=57):[[GV.v (.int .u8 (k:Int))]]=[UInt8.ofNat k].map fun c=>[GV.v (.int .u8 (c.toNat:Int))]:=by
 have:(UInt8.ofNat k).toNat=k:=by simp;omega
 simp [this]
theorem Hc (n:Nat) (hn:n<=1099511627776):GF Tryz.prog 293 [.v (ii (n:Int))] [] (.v (sv (cB n))) []:=by
 induction n using Nat.strongRecOn with
 | _ n ih =>
 unfold cB;refine da Tryz.func293 Tryz.ntmps293 ?_
 by_cases h:n < 10
 ·have h':decide ((n:Int) < 10)=true:=by simpa using by omega
  have hw:=x6 (48+n) ag;rw [Int.natCast_add] at hw;rw [dif_pos h];refine ae ?_;refine bS ?_;exact av
 ·have h':decide ((n:Int) < 10)=false:=by simpa using by omega
  rw [dif_neg h];have hc:=ih (n / 10) ag ag;have hl:=oV (n / 10);have hw:=x6 (48+n % 10) ag;rw [Int.natCast_add] at hw;refine ae ?_;refine aI (.q 0 (.q 1 (aB 3 4 (.f 2 (.a 7 (aB 8 3 .nil)) 7 (.q 8 (.a 2 (.q 9 (.q 10 .nil)))))))) ?_;refine ar ?_;refine GO.fork ?_ ?_
  ·refine aE [] hc ?_;refine ey ?_;refine ar ?_;exact av
  ·refine ey ?_;refine ar ?_;refine aE [] hc ?_;exact av
end Go.Xg
namespace Go.Xg
open Go.RowKit Go.Xw Go.Proofs
open Go.Xp (Tok Nd T bh one levels Ar yT cB oV E S er aM wt eG qn dM bC)
open Go.Sp
attribute [local irreducible] GW GL GO YG GC GA aU aZ
theorem dZ {nd:Nd} {l l':List T} {k v:Int} {s:ah} (h:er (.mk nd l)=.mk ⟨k,0,v,s,[]⟩ l'):nd.kind=k/\nd.n=v/\nd.s=s/\aM l=l':=by
 rw [er] at h
 injection h with h1 h2
 injection h1 with a b c d e
 exact ⟨a,c,d,h2⟩
theorem vY {l:List T} {x:T} (h:aM l=[x]):∃ t,l=[t]/\er t=x:=by
 match l,h with
 | [t],h=>rw [aM,aM] at h;injection h with h1;exact ⟨t,rfl,h1⟩
 | [],h=>rw [aM] at h;cases h
 | t::u::r,h=>rw [aM,aM] at h;injection h with h1 h2;cases h2
theorem BV {l:List T} {x y:T} (h:aM l=[x,y]):∃ t u,l=[t,u]/\er t=x/\er u=y:=by
 match l,h with
 | t::r,h =>
  rw [aM] at h;injection h with h1 h2
  obtain ⟨u,rfl,h3⟩:=vY h2;exact ⟨t,u,rfl,h1,h3⟩
 | [],h=>rw [aM] at h;cases h
theorem Yq {l:List T} {x y z:T} (h:aM l=[x,y,z]):∃ t u w,l=[t,u,w]/\er t=x/\er u=y/\er w=z:=by
 match l,h with
 | t::r,h =>
  rw [aM] at h;injection h with h1 h2
  obtain ⟨u,w,rfl,h3,h4⟩:=BV h2;exact ⟨t,u,w,rfl,h1,h3,h4⟩
 | [],h=>rw [aM] at h;cases h
theorem Qs {a:E} (h:a.ok=true) {t:T} (ht:er t=a.tree):mQ t.n.kind t.n.s=(a.lv:Int):=by
 obtain ⟨nd,l⟩:=t
 cases a with
 | bin s a b =>
  obtain ⟨h1,_,h2,_⟩:=dZ ht;simp only [E.ok,Bool.and_eq_true] at h;have h9:=(Go.Xp.pz h.1.1).1;simp only [T.n,h1,h2,mQ,if_pos,E.lv];unfold dM at h9 |-
  cases hf:levels.findIdx? (fun l=>l.contains s) with
  | none=>rw [hf] at h9;exact absurd h9 aJ
  | some i=>rfl
 | num n=>obtain ⟨h1,_⟩:=dZ ht;simp only [T.n,h1,mQ];rfl
 | name n=>obtain ⟨h1,_⟩:=dZ ht;simp only [T.n,h1,mQ];rfl
 | at_ s a=>obtain ⟨h1,_⟩:=dZ ht;simp only [T.n,h1,mQ];rfl
 | call s a=>obtain ⟨h1,_⟩:=dZ ht;simp only [T.n,h1,mQ];rfl
 | un s a=>obtain ⟨h1,_⟩:=dZ ht;simp only [T.n,h1,mQ];rfl
theorem qX {a:E} (h:a.ok=true) {t:T} (ht:er t=a.tree):GF Tryz.prog 277 [.agg (cT t)] [] (.v (ii (a.lv:Int))) []:=by
 have:=Kd t;rw [Qs h ht] at this;exact this
theorem CI (n:Int) (h:0<=n/\n<=2147483647):GF Tryz.prog 278 [.v (ii n)] [] (.v (sv (cB n.toNat))) []:=by
 have hw:=TF n
 have oI:yT n=n:=by unfold yT;rw [show n % 4294967296=n by omega,if_neg ag]
 rw [oI] at hw;have hd:=Hc n.toNat ag;rw [Int.toNat_of_nonneg h.1] at hd
 have h':decide (n < 0)=false:=by simpa using h.1
 refine ai Tryz.func278 Tryz.ntmps278 ?_;refine ab [] hw ?_;refine ab [] hd ?_;exact al
abbrev lim:Nat:=1000000000000
def ru (a:E):Prop:=∀ (t:T) (k:Nat),a.ok=true->er t=a.tree->wt a.tree<=lim->¬ a.lv < k->GF Tryz.prog 252 [.agg (cT t),.v (ii (k:Int))] [] (.v (sv a.txt)) []
def oy (a:E):Prop:=∀ (t:T) (k:Nat),a.ok=true->er t=a.tree->wt a.tree<=lim->GF Tryz.prog 252 [.agg (cT t),.v (ii (k:Int))] [] (.v (sv (qn a.lv k a.txt))) []
theorem ru.p {a:E} (C:ru a):oy a:=by
 intro t k ho ht hb;unfold qn
 by_cases h:a.lv < k
 ·rw [if_pos h]
  have h':decide ((a.lv:Int) < (k:Int))=true:=by simpa using h
  have hl:=(E.len a ho).1;have h0:=C t 0 ho ht hb ag;have Q4:=hb;unfold lim at Q4;generalize a.txt=x at *;refine ai Tryz.func252 Tryz.ntmps252 ?_;refine ab [] (qX ho ht) ?_;refine ab [] h0 ?_;exact al
 ·rw [if_neg h];exact C t k ho ht hb h
theorem Nv (n:Int):ru (.num n):=by
 intro t k ho ht hb h
 have h':decide (((E.num n).lv:Int) < (k:Int))=false:=by simpa using h
 have hg:=qX ho ht;obtain ⟨⟨kk,aa,vv,ss,ks⟩,l⟩:=t;obtain ⟨h1,h2,h3,hl⟩:=dZ ht;simp only at h1 h2 h3;subst h1 h2 h3;simp only [E.ok,Bool.and_eq_true] at ho;have hn:=CI vv ⟨of_decide_eq_true ho.1,of_decide_eq_true ho.2⟩;rw [E.txt];simp only [cT,T.n,T.kids] at hg |-;refine ai Tryz.func252 Tryz.ntmps252 ?_;refine ab [] hg ?_;refine ab [] hn ?_;exact al
theorem Kk (s:ah):ru (.name s):=by
 intro t k ho ht hb h
 have h':decide (((E.name s).lv:Int) < (k:Int))=false:=by simpa using h
 have hg:=qX ho ht;obtain ⟨⟨kk,aa,vv,ss,ks⟩,l⟩:=t;obtain ⟨h1,h2,h3,hl⟩:=dZ ht;simp only at h1 h2 h3;subst h1 h2 h3;rw [E.txt];simp only [cT,T.n,T.kids] at hg |-;refine ai Tryz.func252 Tryz.ntmps252 ?_;refine ab [] hg ?_;exact al
theorem PM (s:ah) (a:E) (C:oy a):ru (.at_ s a):=by
 intro t k ho ht hb h
 have h':decide (((E.at_ s a).lv:Int) < (k:Int))=false:=by simpa using h
 have hg:=qX ho ht;obtain ⟨⟨kk,aa,vv,ss,ks⟩,l⟩:=t;obtain ⟨h1,h2,h3,hl⟩:=dZ ht;simp only at h1 h2 h3;subst h1 h2 h3;obtain ⟨x,rfl,hx⟩:=vY hl;simp only [E.ok,Bool.and_eq_true] at ho;rw [E.tree,wt] at hb;simp only [eG,lim] at hb;have hc:=C x 0 ho.2 hx (by unfold lim;omega);unfold qn at hc;rw [if_neg ag] at hc;have hle:=(E.len a ho.2).1;have hr:(aR [x])[0]?=some (cT x):=cU rfl;rw [E.txt];generalize a.txt=y at *;simp only [cT,T.n,T.kids] at hg |-;refine ai Tryz.func252 Tryz.ntmps252 ?_;refine ab [] hg ?_;refine aI (aB 0 8 (.a 8 (aB 9 3 .nil))) ?_;refine ar ?_;refine aE [] hc ?_;exact av
theorem PN (s:ah) (a:E) (C:oy a):ru (.un s a):=by
 intro t k ho ht hb h
 have h':decide (((E.un s a).lv:Int) < (k:Int))=false:=by simpa using h
 have hg:=qX ho ht;obtain ⟨⟨kk,aa,vv,ss,ks⟩,l⟩:=t;obtain ⟨h1,h2,h3,hl⟩:=dZ ht;simp only at h1 h2 h3;subst h1 h2 h3;obtain ⟨x,rfl,hx⟩:=vY hl;simp only [E.ok,Bool.and_eq_true] at ho;rw [E.tree,wt] at hb;simp only [eG,lim] at hb;have hc:=C x 9 ho.2 hx (by unfold lim;omega);have hle:=(E.len a ho.2).1;have zV:=Go.Xp.sy a.lv 9 a.txt;have hr:(aR [x])[0]?=some (cT x):=cU rfl;rw [E.txt];generalize qn a.lv 9 a.txt=y at *;simp only [cT,T.n,T.kids] at hg |-;refine ai Tryz.func252 Tryz.ntmps252 ?_;refine ab [] hg ?_;refine aI (aB 0 8 (.a 8 (.q 9 (.a 10 (.q 11 (.q 12 .nil)))))) ?_;refine ar ?_;refine aE [] jC ?_;refine aE [] hc ?_;exact av
theorem Nu (s:ah) (a b:E) (Ca:oy a) (Cb:oy b):ru (.bin s a b):=by
 intro t k ho ht hb h
 have h':decide (((E.bin s a b).lv:Int) < (k:Int))=false:=by simpa using h
 have hg:=qX ho ht;obtain ⟨⟨kk,aa,vv,ss,ks⟩,l⟩:=t;obtain ⟨h1,h2,h3,hl⟩:=dZ ht;simp only at h1 h2 h3;subst h1 h2 h3;obtain ⟨x,y,rfl,hx,hy⟩:=BV hl;simp only [E.ok,Bool.and_eq_true] at ho;rw [E.tree,wt] at hb;simp only [eG,lim] at hb;have Uw:=Ca x (dM ss) ho.1.2 hx (by unfold lim;omega);have zf:=Cb y (dM ss+1) ho.2 hy (by unfold lim;omega);have Ip:=(Go.Xp.pz ho.1.1).1;have hle:=(E.len a ho.1.2).1;have zV:=Go.Xp.sy a.lv (dM ss) a.txt;have Zg:=(E.len b ho.2).1;have aao:=Go.Xp.sy b.lv (dM ss+1) b.txt;have hr:(aR [x,y])[0]?=some (cT x):=cU rfl;have df:(aR [x,y])[1]?=some (cT y):=cU rfl;rw [E.txt];simp only [E.lv] at hg h';generalize qn a.lv (dM ss) a.txt=u at *;generalize qn b.lv (dM ss+1) b.txt=w at *;simp only [cT,T.n,T.kids] at hg |-;refine ai Tryz.func252 Tryz.ntmps252 ?_;refine ab [] hg ?_;refine ab [] hg ?_;refine aI (aB 0 5 (aB 7 3 (aB 12 6 (.a 5 (.q 6 (.q 10 (.q 11 (.a 18 (.q 19 (.q 20 .nil)))))))))) ?_;refine ar ?_;refine aE [] Uw ?_;refine aE [] zf ?_;exact av
end Go.Xg
namespace Go.Xg
open Go.RowKit Go.Xw Go.Proofs
open Go.Xp (Tok Nd T bh one levels Ar cB E S er aM wt eG qn dM bC Bd wj)
open Go.Sp
attribute [local irreducible] GW GL GO YG GC GA aU aZ
def Jw (b:Bool) (a:E):Prop:=∀ t,er t=a.tree->GF Tryz.prog 218 [.agg (cT t),.v (.bool b)] [] (.v (sv (a.out b))) []
theorem Mb:∀ {ts:List T} {es:List E} (h:aM ts=E.trees es),ts.length=es.length/\∀ (k:Nat) t a,ts[k]?=some t->es[k]?=some a->er t=a.tree
 | [],[],_=>⟨rfl,fun k t a h=>by simp at h⟩
 | [],a::l,h=>by rw [aM,E.trees] at h;cases h
 | t::r,[],h=>by rw [aM,E.trees] at h;cases h
 | t::r,a::l,h=>by
  rw [aM,E.trees] at h
  injection h with h1 h2
  obtain ⟨h3,h4⟩:=Mb h2;refine ⟨by simp [h3],fun k t' a' ht ha=>?_⟩
  cases k with
  | zero=>cases ht;cases ha;exact h1
  | succ k=>exact h4 k t' a' (by simpa using ht) (by simpa using ha)
theorem Dl (b:Bool) (es:List E) (C:∀ a∈es,Jw b a) (ts:List T) (tj:aM ts=E.trees es) (hb:(bC (es.map (E.out b))).length<=lim) (hn:es.length<=lim) :
  GF Tryz.prog 279 [.sl 6 (aR ts),.v (.bool b)] [] (.v (sv (bC (es.map (E.out b))))) []:=by
 obtain ⟨hlen,wY⟩:=Mb tj;unfold lim at hb hn;refine ai Tryz.func279 Tryz.ntmps279 ?_;refine GW.range (aR ts).length (fun k fr Γ=>∃ y,fr=[.U,.v (.bool b),.U,.U,.U,.v (sv y),.U,.U,.sl 6 (aR ts),.v (ii ((aR ts).length:Int)),.v (ii (k:Nat)),.U,.U,.U,.U,.U,.U,.U,.U,.U,.U,.U,.U,.U,.U,.U]/\Γ=[]/\y=bC ((es.map (E.out b)).take k)) ?_ (by rw [aS];omega) ?_ ?_ ?_
 ·exact ⟨_,_,Wk.aC aq,[],rfl,rfl,by simp [bC]⟩
 ·rintro k _ _ ⟨y,rfl,rfl,_⟩;exact dS
 ·rintro k _ _ hk ⟨y,rfl,rfl,hy⟩
  have hk:k < es.length:=by rw [aS,hlen] at hk;exact hk
  have w7:k < ts.length:=by omega
  have hx:es[k]?=some es[k]:=by simp [hk]
  have ht:ts[k]?=some ts[k]:=by simp [w7]
  have he:=wY k _ _ ht hx;have hr:=cU ht;have hc:=C _ (mem_of_getElem? hx) _ he;have oE:=wj (es.map (E.out b)) (k+1);have Za:=wj (es.map (E.out b)) k
  have jZ:(es.map (E.out b)).take (k+1)=(es.map (E.out b)).take k++[es[k].out b]:=by
   rw [take_add_one,getElem?_map,hx];rfl
  rw [jZ] at oE;generalize ts[k]=t at *;generalize es[k]=a at *;generalize a.out b=x at *
  by_cases h0:k=0
  ·subst h0
   have sX:decide ((0:Int) < ((0:Nat):Int))=false:=by decide
   have hj:bC ((es.map (E.out b)).take 0++[x])=[]++x:=by simp [bC]
   have MV:bC ((es.map (E.out b)).take 0)=[]:=by simp [bC]
   rw [MV] at hy;subst hy;rw [hj] at oE
   have oE:x.length<=(bC (es.map (E.out b))).length:=by simpa using oE
   refine ae ?_;refine ab [] hc ?_;exact ⟨rfl,rfl,_,_,(Wk.cut (n:=0) (Nat.le_of_ble_eq_true rfl) rfl).trans (Wk.aC aq),_,rfl,rfl,by rw [jZ,hj]⟩
  ·have sX:decide ((0:Int) < (k:Int))=true:=by simpa using by omega
   have bP:(es.map (E.out b)).take k≠[]:=by
    intro h;rw [List.take_eq_nil_iff] at h
    rcases h with h | h
    ·exact h0 h
    ·rw [List.map_eq_nil_iff] at h;subst h;simp at hk
   have hj:=Bd bP x;rw [hj] at oE;rw [<-hy] at oE hj Za;simp only [length_append,length_cons,length_nil] at oE;refine ae ?_;refine ab [] hc ?_;exact ⟨rfl,rfl,_,_,(Wk.cut (n:=0) (Nat.le_of_ble_eq_true rfl) rfl).trans (Wk.aC aq),_,rfl,rfl,by rw [jZ,hj]⟩
 ·rintro _ _ ⟨y,rfl,rfl,hy⟩;have:(es.map (E.out b)).take (aR ts).length=es.map (E.out b):=take_of_length_le (by rw [aS,hlen];simp);rw [this] at hy;subst hy;exact av
theorem oy.out {a:E} (C:oy a) (ho:a.ok=true) (hb:wt a.tree<=lim):Jw true a:=by
 intro t ht;have h0:=C t 0 ho ht hb;unfold qn at h0;rw [if_neg ag] at h0;show GF _ _ _ _ (.v (sv a.txt)) _;refine ai Tryz.func218 Tryz.ntmps218 ?_;refine ab [] h0 ?_;exact al
theorem CD:∀ l:List E,l.length<=eG (E.trees l)
 | []=>Nat.zero_le _
 | a::l=>by
  have:=CD l;rw [E.trees,eG,length_cons]
  have:1<=wt a.tree:=by cases a <;> (rw [E.tree,wt];omega)
  omega
theorem CE:∀ {l:List E} {a:E},a∈l->wt a.tree<=eG (E.trees l)
 | [],_,h=>by cases h
 | b::l,a,h=>by
  rw [E.trees,eG]
  rcases List.mem_cons.1 h with rfl | h
  ·omega
  ·have:=CE h;omega
theorem Ck:∀ {l:List E} {a:E},E.cM l=true->a∈l->a.ok=true
 | [],_,_,h=>by cases h
 | b::l,a,ho,h=>by
  simp only [E.cM,Bool.and_eq_true] at ho
  rcases List.mem_cons.1 h with rfl | h
  ·exact ho.1
  ·exact Ck ho.2 h
theorem Kj (s:ah) (es:List E) (C:∀ a∈es,oy a):ru (.call s es):=by
 intro t k ho ht hb h
 have h':decide (((E.call s es).lv:Int) < (k:Int))=false:=by simpa using h
 have hg:=qX ho ht;obtain ⟨⟨kk,aa,vv,ss,ks⟩,l⟩:=t;obtain ⟨h1,h2,h3,hl⟩:=dZ ht;simp only at h1 h2 h3;subst h1 h2 h3;simp only [E.ok,Bool.and_eq_true] at ho;rw [E.tree,wt] at hb;have hle:=(E.lens es ho.2).1;have hn:=CD es
 have Ff:E.cL es=es.map (E.out true):=by rw [E.Qz];rfl
 have hj:=Dl true es (fun a ha=>(C a ha).out (Ck ho.2 ha) (by have:=CE ha;omega)) l hl (by rw [<-Ff];omega) ag;rw [<-Ff] at hj;unfold lim at hb;simp only at hb;rw [E.txt];generalize bC (E.cL es)=y at *;simp only [cT,T.n,T.kids] at hg |-;refine ai Tryz.func252 Tryz.ntmps252 ?_;refine ab [] hg ?_;refine aI (aB 0 6 (.a 6 (aB 7 3 .nil))) ?_;refine ar ?_;refine aE [] hj ?_;exact av
mutual
theorem vn:∀ a:E,oy a
 | .num n=>(Nv n).p
 | .name s=>(Kk s).p
 | .at_ s a=>(PM s a (vn a)).p
 | .call s l=>(Kj s l (IG l)).p
 | .un s a=>(PN s a (vn a)).p
 | .bin s a b=>(Nu s a b (vn a) (vn b)).p
theorem IG:∀ l:List E,∀ a∈l,oy a
 | []=>fun a h=>by cases h
 | b::l=>fun a h=>by
  rcases List.mem_cons.1 h with h | h
  ·rw [h];exact vn b
  ·exact IG l a h
end
def lV (a:E):Prop:=∀ (t:T),a.ok=true->er t=a.tree->wt a.tree<=lim->GF Tryz.prog 253 [.agg (cT t)] [] (.v (sv a.full)) []
theorem lV.out {a:E} (C:lV a) (ho:a.ok=true) (hb:wt a.tree<=lim):Jw false a:=by
 intro t ht;have h0:=C t ho ht hb;show GF _ _ _ _ (.v (sv a.full)) _;refine ai Tryz.func218 Tryz.ntmps218 ?_;refine ab [] h0 ?_;exact al
theorem Pe (n:Int):lV (.num n):=by
 intro t ho ht hb;obtain ⟨⟨kk,aa,vv,ss,ks⟩,l⟩:=t;obtain ⟨h1,h2,h3,hl⟩:=dZ ht;simp only at h1 h2 h3;subst h1 h2 h3;simp only [E.ok,Bool.and_eq_true] at ho;have hn:=CI vv ⟨of_decide_eq_true ho.1,of_decide_eq_true ho.2⟩;rw [E.full];simp only [cT,T.n,T.kids];refine ai Tryz.func253 Tryz.ntmps253 ?_;refine ab [] hn ?_;exact al
theorem Mv (s:ah):lV (.name s):=by
 intro t ho ht hb;obtain ⟨⟨kk,aa,vv,ss,ks⟩,l⟩:=t;obtain ⟨h1,h2,h3,hl⟩:=dZ ht;simp only at h1 h2 h3;subst h1 h2 h3;rw [E.full];simp only [cT,T.n,T.kids];refine ai Tryz.func253 Tryz.ntmps253 ?_;exact al
theorem Sv (s:ah) (a:E) (C:lV a):lV (.at_ s a):=by
 intro t ho ht hb;obtain ⟨⟨kk,aa,vv,ss,ks⟩,l⟩:=t;obtain ⟨h1,h2,h3,hl⟩:=dZ ht;simp only at h1 h2 h3;subst h1 h2 h3;obtain ⟨x,rfl,hx⟩:=vY hl;simp only [E.ok,Bool.and_eq_true] at ho;rw [E.tree,wt] at hb;simp only [eG,lim] at hb;have hc:=C x ho.2 hx (by unfold lim;omega);have hle:=(E.len a ho.2).2;have hr:(aR [x])[0]?=some (cT x):=cU rfl;rw [E.full];generalize a.full=y at *;simp only [cT,T.n,T.kids] at |-;refine ai Tryz.func253 Tryz.ntmps253 ?_;refine aI (aB 0 8 (.a 8 (aB 9 3 .nil))) ?_;refine ar ?_;refine aE [] hc ?_;exact av
theorem Mu (s:ah) (es:List E) (C:∀ a∈es,lV a):lV (.call s es):=by
 intro t ho ht hb;obtain ⟨⟨kk,aa,vv,ss,ks⟩,l⟩:=t;obtain ⟨h1,h2,h3,hl⟩:=dZ ht;simp only at h1 h2 h3;subst h1 h2 h3;simp only [E.ok,Bool.and_eq_true] at ho;rw [E.tree,wt] at hb;have hle:=(E.lens es ho.2).2;have hn:=CD es
 have Ff:E.sn es=es.map (E.out false):=by rw [E.Mw];rfl
 have hj:=Dl false es (fun a ha=>(C a ha).out (Ck ho.2 ha) (by have:=CE ha;omega)) l hl (by rw [<-Ff];omega) ag;rw [<-Ff] at hj;unfold lim at hb;simp only at hb;rw [E.full];generalize bC (E.sn es)=y at *;simp only [cT,T.n,T.kids] at |-;refine ai Tryz.func253 Tryz.ntmps253 ?_;refine aI (aB 0 6 (.a 6 (aB 7 3 .nil))) ?_;refine ar ?_;refine aE [] hj ?_;exact av
theorem Sw (s:ah) (a:E) (C:lV a):lV (.un s a):=by
 intro t ho ht hb;obtain ⟨⟨kk,aa,vv,ss,ks⟩,l⟩:=t;obtain ⟨h1,h2,h3,hl⟩:=dZ ht;simp only at h1 h2 h3;subst h1 h2 h3;obtain ⟨x,rfl,hx⟩:=vY hl;simp only [E.ok,Bool.and_eq_true] at ho;rw [E.tree,wt] at hb;simp only [eG,lim] at hb;have hc:=C x ho.2 hx (by unfold lim;omega);have hle:=(E.len a ho.2).2;have hr:(aR [x])[0]?=some (cT x):=cU rfl;rw [E.full];generalize a.full=y at *;simp only [cT,T.n,T.kids] at |-;refine ai Tryz.func253 Tryz.ntmps253 ?_;refine aI (aB 0 8 (.a 8 (aB 9 3 .nil))) ?_;refine ar ?_;refine aE [] hc ?_;exact av
theorem Pd (s:ah) (a b:E) (Ca:lV a) (Cb:lV b):lV (.bin s a b):=by
 intro t ho ht hb;obtain ⟨⟨kk,aa,vv,ss,ks⟩,l⟩:=t;obtain ⟨h1,h2,h3,hl⟩:=dZ ht;simp only at h1 h2 h3;subst h1 h2 h3;obtain ⟨x,y,rfl,hx,hy⟩:=BV hl;simp only [E.ok,Bool.and_eq_true] at ho;rw [E.tree,wt] at hb;simp only [eG,lim] at hb;have Uw:=Ca x ho.1.2 hx (by unfold lim;omega);have zf:=Cb y ho.2 hy (by unfold lim;omega);have hle:=(E.len a ho.1.2).2;have Zg:=(E.len b ho.2).2;have hr:(aR [x,y])[0]?=some (cT x):=cU rfl;have df:(aR [x,y])[1]?=some (cT y):=cU rfl;rw [E.full];generalize a.full=u at *;generalize b.full=w at *;simp only [cT,T.n,T.kids] at |-;refine ai Tryz.func253 Tryz.ntmps253 ?_;refine aI (aB 0 4 (aB 7 3 (aB 12 4 (.a 4 (.q 5 (.q 6 (.q 10 (.q 11 (.a 16 (aB 17 3 .nil)))))))))) ?_;refine ar ?_;refine aE [] Uw ?_;refine aE [] zf ?_;exact av
mutual
theorem yw:∀ a:E,lV a
 | .num n=>Pe n
 | .name s=>Mv s
 | .at_ s a=>Sv s a (yw a)
 | .call s l=>Mu s l (Mt l)
 | .un s a=>Sw s a (yw a)
 | .bin s a b=>Pd s a b (yw a) (yw b)
theorem Mt:∀ l:List E,∀ a∈l,lV a
 | []=>fun a h=>by cases h
 | b::l=>fun a h=>by
  rcases List.mem_cons.1 h with h | h
  ·rw [h];exact yw b
  ·exact Mt l a h
end
theorem pY (b:Bool) {a:E} (ho:a.ok=true) (hb:wt a.tree<=lim):Jw b a:=by
 cases b with
 | true=>exact (vn a).out ho hb
 | false=>exact (yw a).out ho hb
theorem iX (b:Bool) (a:E) (ho:a.ok=true):(a.out b).length+4<=wt a.tree:=by
 have:=E.len a ho
 cases b with
 | true=>exact this.1
 | false=>exact this.2
end Go.Xg
namespace Go.Xg
open Go.RowKit Go.Xw Go.Proofs
open Go.Xp (Tok Nd T bh one levels Ar cB E S er aM wt eG bF eV)
open Go.Sp
attribute [local irreducible] GW GL GO YG GC GA aU aZ
theorem Jj (x:E->Go.Xp.ah):∀ (l:List S) (acc:Go.Xp.ah),acc.length<=(S.cL x acc l).length
 | [],acc=>by rw [S.cL];omega
 | a::l,acc=>by
  rw [S.cL];have:=Jj x l (acc++a.txt x++[32]);simp only [length_append,length_cons,length_nil] at this;omega
def nq (b:Bool) (s:S):Prop:=∀ t,s.ok=true->er t=s.tree->wt s.tree<=lim->GF Tryz.prog 190 [.agg (cT t),.v (.bool b)] [] (.v (sv (s.txt (E.out b)))) []
def uP (b:Bool) (l:List S):Prop:=∀ t,S.cM l=true->er t=bF l->wt (bF l)<=lim->GF Tryz.prog 190 [.agg (cT t),.v (.bool b)] [] (.v (sv (eV (E.out b) l))) []
theorem I5:∀ {ts:List T} {es:List S} (h:aM ts=S.trees es),ts.length=es.length/\∀ (k:Nat) t a,ts[k]?=some t->es[k]?=some a->er t=a.tree
 | [],[],_=>⟨rfl,fun k t a h=>by simp at h⟩
 | [],a::l,h=>by rw [aM,S.trees] at h;cases h
 | t::r,[],h=>by rw [aM,S.trees] at h;cases h
 | t::r,a::l,h=>by
  rw [aM,S.trees] at h
  injection h with h1 h2
  obtain ⟨h3,h4⟩:=I5 h2;refine ⟨by simp [h3],fun k t' a' ht ha=>?_⟩
  cases k with
  | zero=>cases ht;cases ha;exact h1
  | succ k=>exact h4 k t' a' (by simpa using ht) (by simpa using ha)
theorem Gt:∀ {l:List S} {a:S},a∈l->wt a.tree<=eG (S.trees l)
 | [],_,h=>by cases h
 | b::l,a,h=>by
  rw [S.trees,eG]
  rcases List.mem_cons.1 h with rfl | h
  ·omega
  ·have:=Gt h;omega
theorem Gs:∀ l:List S,l.length<=eG (S.trees l)
 | []=>Nat.zero_le _
 | a::l=>by
  have:=Gs l;rw [S.trees,eG,length_cons]
  have:1<=wt a.tree:=by cases a <;> (rw [S.tree,wt];omega)
  omega
theorem Gk:∀ {l:List S} {a:S},S.cM l=true->a∈l->a.ok=true
 | [],_,_,h=>by cases h
 | b::l,a,ho,h=>by
  simp only [S.cM,Bool.and_eq_true] at ho
  rcases List.mem_cons.1 h with rfl | h
  ·exact ho.1
  ·exact Gk ho.2 h
theorem OE (b:Bool) (s:Go.Xp.ah) (a:E):nq b (.var s a):=by
 intro t ho ht hb;obtain ⟨⟨kk,aa,vv,ss,ks⟩,l⟩:=t;obtain ⟨h1,h2,h3,hl⟩:=dZ ht;simp only at h1 h2 h3;subst h1 h2 h3;obtain ⟨x0,rfl,po⟩:=vY hl;simp only [S.ok,Bool.and_eq_true] at ho;rw [S.tree,wt] at hb;simp only [eG,lim] at hb;have pP:=pY b (a:=a) ho.2 (by unfold lim;omega) x0 po;have tZ:=iX b a ho.2;have oH:(aR [x0])[0]?=some (cT x0):=cU rfl;rw [S.txt];generalize a.out b=y0 at *;simp only [cT,T.n,T.kids];refine ai Tryz.func190 Tryz.ntmps190 ?_;refine aI (aB 0 10 (.a 10 (aB 11 3 .nil))) ?_;refine ar ?_;refine aE [] pP ?_;exact av
theorem OD (b:Bool) (s:Go.Xp.ah) (a:E):nq b (.set s a):=by
 intro t ho ht hb;obtain ⟨⟨kk,aa,vv,ss,ks⟩,l⟩:=t;obtain ⟨h1,h2,h3,hl⟩:=dZ ht;simp only at h1 h2 h3;subst h1 h2 h3;obtain ⟨x0,rfl,po⟩:=vY hl;simp only [S.ok,Bool.and_eq_true] at ho;rw [S.tree,wt] at hb;simp only [eG,lim] at hb;have pP:=pY b (a:=a) ho.2 (by unfold lim;omega) x0 po;have tZ:=iX b a ho.2;have oH:(aR [x0])[0]?=some (cT x0):=cU rfl;rw [S.txt];generalize a.out b=y0 at *;simp only [cT,T.n,T.kids];refine ai Tryz.func190 Tryz.ntmps190 ?_;refine aI (aB 0 9 (.a 9 (aB 10 3 .nil))) ?_;refine ar ?_;refine aE [] pP ?_;exact av
theorem OB (b:Bool) (s:Go.Xp.ah) (a:E) (c:E):nq b (.put s a c):=by
 intro t ho ht hb;obtain ⟨⟨kk,aa,vv,ss,ks⟩,l⟩:=t;obtain ⟨h1,h2,h3,hl⟩:=dZ ht;simp only at h1 h2 h3;subst h1 h2 h3;obtain ⟨x0,x1,rfl,po,vj⟩:=BV hl;simp only [S.ok,Bool.and_eq_true] at ho;rw [S.tree,wt] at hb;simp only [eG,lim] at hb;have pP:=pY b (a:=a) ho.2.1 (by unfold lim;omega) x0 po;have tZ:=iX b a ho.2.1;have oH:(aR [x0,x1])[0]?=some (cT x0):=cU rfl;have sY:=pY b (a:=c) ho.2.2 (by unfold lim;omega) x1 vj;have eS:=iX b c ho.2.2;have fX:(aR [x0,x1])[1]?=some (cT x1):=cU rfl;rw [S.txt];generalize a.out b=y0 at *;generalize c.out b=y1 at *;simp only [cT,T.n,T.kids];refine ai Tryz.func190 Tryz.ntmps190 ?_;refine aI (aB 0 9 (aB 12 5 (.a 9 (.q 10 (.q 11 (.a 17 (aB 18 3 .nil))))))) ?_;refine ar ?_;refine aE [] pP ?_;refine aE [] sY ?_;exact av
theorem Oy (b:Bool) (c:E) (p:List S) (Cp:uP b p):nq b (.if1 c p):=by
 intro t ho ht hb;obtain ⟨⟨kk,aa,vv,ss,ks⟩,l⟩:=t;obtain ⟨h1,h2,h3,hl⟩:=dZ ht;simp only at h1 h2 h3;subst h1 h2 h3;obtain ⟨x0,x1,rfl,po,vj⟩:=BV hl;simp only [S.ok,Bool.and_eq_true] at ho;rw [S.tree,wt] at hb;simp only [eG,lim] at hb;have pP:=pY b (a:=c) ho.1 (by unfold lim;omega) x0 po;have tZ:=iX b c ho.1;have oH:(aR [x0,x1])[0]?=some (cT x0):=cU rfl;have sY:=Cp x1 ho.2 vj (by unfold lim bF;omega);have eS:=Go.Xp.sx (E.out b) (iX b) ho.2;rw [bF] at eS;have fX:(aR [x0,x1])[1]?=some (cT x1):=cU rfl;rw [S.txt];generalize c.out b=y0 at *
 change GF _ _ _ _ (.v (sv _)) _ at sY
 unfold eV at sY eS;generalize S.cL (E.out b) [123,32] p++[125]=y1 at *;simp only [cT,T.n,T.kids];refine ai Tryz.func190 Tryz.ntmps190 ?_;refine aI (aB 0 5 (aB 8 5 (.a 5 (.q 6 (.q 7 (.a 13 (.q 14 (.q 15 .nil)))))))) ?_;refine ar ?_;refine aE [] pP ?_;refine aE [] sY ?_;exact av
theorem Oz (b:Bool) (c:E) (p:List S) (q:List S) (Cp:uP b p) (Cq:uP b q):nq b (.if2 c p q):=by
 intro t ho ht hb;obtain ⟨⟨kk,aa,vv,ss,ks⟩,l⟩:=t;obtain ⟨h1,h2,h3,hl⟩:=dZ ht;simp only at h1 h2 h3;subst h1 h2 h3;obtain ⟨x0,x1,x2,rfl,po,vj,Iv⟩:=Yq hl;simp only [S.ok,Bool.and_eq_true] at ho;rw [S.tree,wt] at hb;simp only [eG,lim] at hb;have pP:=pY b (a:=c) ho.1 (by unfold lim;omega) x0 po;have tZ:=iX b c ho.1;have oH:(aR [x0,x1,x2])[0]?=some (cT x0):=cU rfl;have sY:=Cp x1 ho.2.1 vj (by unfold lim bF;omega);have eS:=Go.Xp.sx (E.out b) (iX b) ho.2.1;rw [bF] at eS;have fX:(aR [x0,x1,x2])[1]?=some (cT x1):=cU rfl;have jJ:=Cq x2 ho.2.2 Iv (by unfold lim bF;omega);have jA:=Go.Xp.sx (E.out b) (iX b) ho.2.2;rw [bF] at jA;have df:(aR [x0,x1,x2])[2]?=some (cT x2):=cU rfl;rw [S.txt];generalize c.out b=y0 at *
 change GF _ _ _ _ (.v (sv _)) _ at sY
 unfold eV at sY eS;generalize S.cL (E.out b) [123,32] p++[125]=y1 at *
 change GF _ _ _ _ (.v (sv _)) _ at jJ
 unfold eV at jJ jA;generalize S.cL (E.out b) [123,32] q++[125]=y2 at *;simp only [cT,T.n,T.kids];refine ai Tryz.func190 Tryz.ntmps190 ?_;refine aI (aB 0 5 (aB 8 5 (.a 5 (.q 6 (.q 7 (.a 13 (.q 14 (.q 15 .nil)))))))) ?_;refine ar ?_;refine aE [] pP ?_;refine aE [] sY ?_;refine ae ?_;refine ab [] jJ ?_;exact al
theorem HC (b:Bool) (c:E) (p:List S) (Cp:uP b p):nq b (.while_ c p):=by
 intro t ho ht hb;obtain ⟨⟨kk,aa,vv,ss,ks⟩,l⟩:=t;obtain ⟨h1,h2,h3,hl⟩:=dZ ht;simp only at h1 h2 h3;subst h1 h2 h3;obtain ⟨x0,x1,rfl,po,vj⟩:=BV hl;simp only [S.ok,Bool.and_eq_true] at ho;rw [S.tree,wt] at hb;simp only [eG,lim] at hb;have pP:=pY b (a:=c) ho.1 (by unfold lim;omega) x0 po;have tZ:=iX b c ho.1;have oH:(aR [x0,x1])[0]?=some (cT x0):=cU rfl;have sY:=Cp x1 ho.2 vj (by unfold lim bF;omega);have eS:=Go.Xp.sx (E.out b) (iX b) ho.2;rw [bF] at eS;have fX:(aR [x0,x1])[1]?=some (cT x1):=cU rfl;rw [S.txt];generalize c.out b=y0 at *
 change GF _ _ _ _ (.v (sv _)) _ at sY
 unfold eV at sY eS;generalize S.cL (E.out b) [123,32] p++[125]=y1 at *;simp only [cT,T.n,T.kids];refine ai Tryz.func190 Tryz.ntmps190 ?_;refine aI (aB 0 5 (aB 8 5 (.a 5 (.q 6 (.q 7 (.a 13 (.q 14 (.q 15 .nil)))))))) ?_;refine ar ?_;refine aE [] pP ?_;refine aE [] sY ?_;exact av
theorem OC (b:Bool) (a:E):nq b (.ret a):=by
 intro t ho ht hb;obtain ⟨⟨kk,aa,vv,ss,ks⟩,l⟩:=t;obtain ⟨h1,h2,h3,hl⟩:=dZ ht;simp only at h1 h2 h3;subst h1 h2 h3;obtain ⟨x0,rfl,po⟩:=vY hl;simp only [S.ok] at ho;rw [S.tree,wt] at hb;simp only [eG,lim] at hb;have pP:=pY b (a:=a) ho (by unfold lim;omega) x0 po;have tZ:=iX b a ho;have oH:(aR [x0])[0]?=some (cT x0):=cU rfl;rw [S.txt];generalize a.out b=y0 at *;simp only [cT,T.n,T.kids];refine ai Tryz.func190 Tryz.ntmps190 ?_;refine ab [] pP ?_;exact al
theorem QI (b:Bool) (a:E):nq b (.do_ a):=by
 intro t ho ht hb;obtain ⟨⟨kk,aa,vv,ss,ks⟩,l⟩:=t;obtain ⟨h1,h2,h3,hl⟩:=dZ ht;simp only at h1 h2 h3;subst h1 h2 h3;obtain ⟨x0,rfl,po⟩:=vY hl;simp only [S.ok] at ho;rw [S.tree,wt] at hb;simp only [eG,lim] at hb;have pP:=pY b (a:=a) ho (by unfold lim;omega) x0 po;have tZ:=iX b a ho;have oH:(aR [x0])[0]?=some (cT x0):=cU rfl;rw [S.txt];generalize a.out b=y0 at *;simp only [cT,T.n,T.kids];refine ai Tryz.func190 Tryz.ntmps190 ?_;refine ab [] pP ?_;exact al
theorem rT (b:Bool) (es:List S) (C:∀ a∈es,nq b a):uP b es:=by
 intro t ho ht hb;obtain ⟨⟨kk,aa,vv,ss,ks⟩,l⟩:=t;obtain ⟨h1,h2,h3,hl⟩:=dZ ht;simp only at h1 h2 h3;subst h1 h2 h3;obtain ⟨hlen,wY⟩:=I5 hl;have nc:=Go.Xp.sx (E.out b) (iX b) ho;rw [bF,wt] at hb;rw [bF,wt] at nc;have hn:=Gs es;unfold eV at nc |-;unfold lim at hb;simp only [length_append,length_cons,length_nil] at hb nc;simp only [cT,T.n,T.kids];refine ai Tryz.func190 Tryz.ntmps190 ?_;refine GW.range (aR l).length (fun k fr Γ=>∃ y,fr=[.U,.v (.bool b),.loc 0 0,.U,.U,.U,.v (sv y),.U,.U,.U,.U,.U,.U,.U,.U,.U,.U,.U,.U,.U,.U,.U,.U,.U,.U,.U,.U,.U,.U,.U,.U,.U,.U,.U,.U,.U,.U,.U,.U,.U,.U,.U,.U,.U,.U,.U,.U,.U,.U,.U,.U,.U,.U,.U,.U,.U,.U,.U,.U,.U,.U,.U,.U,.U,.U,.U,.U,.U,.U,.U,.U,.U,.U,.U,.U,.U,.U,.U,.U,.U,.U,.U,.U,.U,.U,.U,.U,.U,.U,.U,.U,.U,.U,.U,.U,.U,.U,.U,.U,.U,.U,.U,.U,.U,.U,.U,.U,.U,.U,.U,.U,.U,.U,.U,.U,.U,.U,.U,.U,.U,.U,.U,.U,.U,.U,.U,.U,.U,.U,.U,.U,.sl 6 (aR l),.v (ii ((aR l).length:Int)),.v (ii (k:Nat)),.U,.U,.U,.U,.U,.U,.U,.U,.U,.U,.U,.U]/\Γ=[.box 94 [.v (ii 14),.v (ii aa),.v (ii 0),.v (sv []),ints ks,.sl 6 (aR l)]]/\S.cL (E.out b) y (es.drop k)=S.cL (E.out b) [123,32] es) ?_ (by rw [aS];omega) ?_ ?_ ?_
 ·exact ⟨_,_,Wk.aC aq,_,rfl,rfl,rfl⟩
 ·rintro k _ _ ⟨y,rfl,rfl,_⟩;exact dS
 ·rintro k _ _ hk ⟨y,rfl,rfl,hy⟩
  have hk:k < es.length:=by rw [aS,hlen] at hk;exact hk
  have w7:k < l.length:=by omega
  have hx:es[k]?=some es[k]:=by simp [hk]
  have jZ:l[k]?=some l[k]:=by simp [w7]
  have hr:=cU jZ;rw [drop_eq_getElem_cons hk,S.cL] at hy;have hm:=mem_of_getElem? hx;have hc:=C _ hm _ (Gk ho hm) (wY k _ _ jZ hx) (by have:=Gt hm;unfold lim;omega);generalize l[k]=t at *;generalize hgx:es[k].txt (E.out b)=x at *;have lx:=Jj (E.out b) (es.drop (k+1)) (y++x++[32]);rw [hy] at lx;simp only [length_append,length_cons,length_nil] at lx;refine ae ?_;refine ab [] hc ?_;exact ⟨rfl,rfl,_,_,(Wk.cut (n:=1) (Nat.le_of_ble_eq_true rfl) rfl).trans (Wk.aC aq),_,rfl,rfl,hy⟩
 ·rintro _ _ ⟨y,rfl,rfl,hy⟩;rw [List.drop_of_length_le (by rw [aS,hlen];exact Nat.le_refl _),S.cL] at hy;subst hy;exact av
mutual
theorem V6 (b:Bool):∀ s:S,nq b s
 | .set s a=>OD b s a
 | .put s a c=>OB b s a c
 | .if1 c p=>Oy b c p (rT b p (sI b p))
 | .if2 c p q=>Oz b c p q (rT b p (sI b p)) (rT b q (sI b q))
 | .while_ c p=>HC b c p (rT b p (sI b p))
 | .ret a=>OC b a
 | .do_ a=>QI b a
 | .var s a=>OE b s a
theorem sI (b:Bool):∀ l:List S,∀ a∈l,nq b a
 | []=>fun a h=>by cases h
 | c::l=>fun a h=>by
  rcases List.mem_cons.1 h with h | h
  ·rw [h];exact V6 b c
  ·exact sI b l a h
end
theorem V5 (b:Bool) (l:List S):uP b l:=rT b l (sI b l)
end Go.Xg
namespace Go.Xg
open Go.RowKit Go.Xw Go.Proofs
open Go.Xp (Tok Nd T bh one levels Ar cB E S er aM wt eG bF eV eu)
open Go.Sp
attribute [local irreducible] GW GL GO YG GC GA aU aZ
theorem Nk (p:Src) (hp:Bw p) (ls:List (List S)) (hb:Ed p ls):GF Tryz.prog 152 [.agg (ax p)] [] (.v (.bool (ls.all fun l=>eu l 1))) []:=by
 refine ai Tryz.func152 Tryz.ntmps152 ?_;refine GW.range (p.fns.map aw).length (fun k fr Γ=>fr=[.U,.loc 0 0,.U,.U,.U,.U,.U,.U,.sl 3 (p.fns.map aw),.v (ii ((p.fns.map aw).length:Int)),.v (ii (k:Nat)),.U,.U,.U,.U,.U,.U,.U,.U,.U,.U,.U,.U,.U,.U,.U,.U,.U,.U,.U,.U,.U,.U,.U,.U,.U,.U,.U,.U,.U,.U,.U,.U,.U,.U]/\Γ=[.box 34 (ax p)]/\((ls.take k).all fun l=>eu l 1)=true) ?_ (by simpa using by have:=hp.fns.1;omega) ?_ ?_ ?_
 ·exact jy
 ·exact gx
 ·rintro k _ _ hk ⟨rfl,rfl,hf⟩
  have hk:k < p.fns.length:=by simpa using hk
  have eR:k < ls.length:=by rw [hb.len];exact hk
  have hx:p.fns[k]?=some p.fns[k]:=by simp [hk]
  have zp:ls[k]?=some ls[k]:=by simp [eR]
  have hr:=Bo hx;obtain ⟨h0,ho,hw,t,pU,her⟩:=hb.at_ k _ _ hx zp;have hs:=D8 p (fun n hn=>(hp.nodes.2 n hn).2) _ _ _ pU;rw [Int.toNat_of_nonneg h0] at hs;have Fv:=V5 true ls[k] t ho her (by unfold lim;omega);obtain ⟨ts,t2,q,f,h1,h2,h3,h4,h5,h6,h7⟩:=R6 ho hw;have jZ:=Nl _ ts ag h1;have hmp:RS.ok ⟨ts,0,(eV E.txt ls[k]).length,0,0⟩:=⟨Nat.zero_le _,by simp only;omega⟩;have dj:=(sds f).block 1 _ t2 q hmp ag h5
  have kB:(E.out true)=E.txt:=by funext a;rfl
  rw [kB] at Fv;generalize eV E.txt ls[k]=tx at *;generalize uF:eu ls[k] 1=fit at *;generalize p.fns[k]=x at *
  rcases h7 with ⟨h7,h8,rfl⟩ | ⟨h7,rfl⟩
  ·have sY:(q.code != 0)=false:=by simpa using h7
   have jJ:((q.i:Int) != ((q.l.map c8).length:Int))=false:=by rw [length_map,h6];simp [h8]
   refine ae ?_;refine ab [] hs ?_;refine ab [] Fv ?_;refine ab [] jZ ?_;refine ab [2] dj ?_;refine aI (aB 0 17 .nil) ?_;refine bf ?_;exact ⟨rfl,rfl,_,_,(Wk.cut (n:=1) (Nat.le_of_ble_eq_true rfl) rfl).trans (Wk.aC aq),rfl,rfl,sP zp hf uF⟩
  ·have sY:(q.code != 0)=true:=by simpa using h7
   have aQ:(ls.all fun l=>eu l 1)=false:=uR zp uF;rw [aQ];refine ae ?_;refine ab [] hs ?_;refine ab [] Fv ?_;refine ab [] jZ ?_;refine ab [2] dj ?_;refine aI (aB 0 17 .nil) ?_;refine ar ?_;exact av
 ·rintro _ _ ⟨rfl,rfl,hf⟩;rw [take_of_length_le (by rw [length_map,hb.len];exact Nat.le_refl _)] at hf;rw [hf];exact av
theorem Ll (p:Src) (hp:Bw p) (h:nY p=some false):GF Tryz.prog 129 [.agg (ax p)] [] (.v (.bool false)) []:=by
 have hs:=Be p hp false h;refine ai Tryz.func129 Tryz.ntmps129 ?_;refine ab [] hs ?_;exact al
theorem Lo (p:Src) (hp:Bw p) (h:nY p=some true) (ls:List (List S)) (hb:Ed p ls):GF Tryz.prog 129 [.agg (ax p)] [] (.v (.bool (ls.all fun l=>eu l 1))) []:=by
 have hs:=Be p hp true h;have hf:=Nk p hp ls hb;generalize (ls.all fun l=>eu l 1)=b at *;refine ai Tryz.func129 Tryz.ntmps129 ?_;refine ab [] hs ?_;refine ab [] hf ?_;exact al
end Go.Xg
namespace Go.Xg
open Go.RowKit Go.Xw Go.Proofs
open Go.Xp (Tok Nd T levels Ar E S er wt bF eV eu)
open Go.Sp
open Go.Im
attribute [local irreducible] GW GL GO YG GC GA aU aZ
theorem Tf {p:Src} (hw:eh p<=1048576):Bw p:=by
 obtain ⟨⟨a1,a2⟩,⟨b1,b2⟩,⟨c1,c2⟩,⟨d1,d2⟩⟩:=gR p;exact ⟨⟨by omega,fun s hs=>by have:=a2 s hs;omega⟩,⟨by omega,fun s hs=>by have:=b2 s hs;omega⟩,⟨by omega,fun f hf=>by obtain ⟨e1,e2,e3⟩:=c2 f hf;exact ⟨by omega,by omega,fun s hs=>by have:=e3 s hs;omega⟩⟩,⟨by omega,fun n hn=>by obtain ⟨e1,e2⟩:=d2 n hn;exact ⟨by omega,by omega⟩⟩⟩
theorem Lm (p:Src) (hw:eh p<=1048576):GF Tryz.prog 129 [.agg (ax p)] [] (.v (.bool (fI p))) []:=by
 have iT:=Tf hw;obtain ⟨b,hb⟩:=KU p
 cases b with
 | false=>rw [Yu hb];exact Ll p iT hb
 | true =>
  obtain ⟨l,hl⟩:=Th hb;obtain ⟨ls,hf⟩:=hl.JN;rw [Yv hl hf];exact Lo p iT hb ls (LJ hl hf hw)
end Go.Xg
namespace Go.Xg
open Go.RowKit Go.Xw Go.Proofs
open Go.Xp (Tok Nd T)
open Go.Sp (Src)
open Go.Im (om qh tr ji cX fP uH)
attribute [local irreducible] GW GL GO YG GC GA aU aZ
mutual
def tT:T->GV
 | .mk n l=>.box [.v (ii n.kind),.v (ii n.at_),.v (ii n.n),.v (sv n.s),ints n.kids,.sl 1 (ca l)] 0
def ca:List T->List (List GV)
 | []=>[]
 | t::r=>[tT t]::ca r
end
abbrev uT (t:T):GV:=.box [.v (ii t.n.kind),.v (ii t.n.at_),.v (ii t.n.n),.v (sv t.n.s),ints t.n.kids,.sl 1 (ca t.kids)] 0
theorem Xq (t:T):tT t=uT t:=by cases t;rw [tT];rfl
theorem ko (l:List T):ca l=l.map fun t=>[uT t]:=by
 induction l with
 | nil=>rfl
 | cons t l ih=>rw [ca,ih,Xq];rfl
theorem qW (l:List T):(ca l).length=l.length:=by rw [ko];simp
theorem Jd (l:List T) (t:T):ca (l++[t])=ca l++[[uT t]]:=by rw [ko,ko];simp
theorem vB {l:List T} {i:Nat} {t:T} (h:l[i]?=some t):(ca l)[i]?=some [uT t]:=by rw [ko,getElem?_map,h];rfl
def trG:Option (T × Nat)->GV
 | none=>.tup [.U,.U,.v (.bool false)]
 | some (t,e)=>.tup [uT t,.v (ii (e:Nat)),.v (.bool true)]
theorem Qy (nodes:List Nd) (hl:nodes.length<=1099511627776) (hk:∀ n∈nodes,n.kids.length<=1099511627776):∀ (f a:Nat),nodes.length - a+1<=f->a<=1099511627776 ->
  GF Tryz.prog 193 [.sl 5 (nodes.map ay),.v (ii (a:Nat))] [] (trG (om nodes f a)) []:=by
 intro f
 induction f with
 | zero=>intro a h;omega
 | succ f ih =>
 intro a hf ha;rw [om]
 cases hn:nodes[a]? with
 | none =>
  have lx:nodes.length<=a:=List.getElem?_eq_none_iff.1 hn
  have hd:decide (((nodes.map ay).length:Int)<=(a:Int))=true:=by simpa using lx
  refine ai Tryz.func193 Tryz.ntmps193 ?_;refine q9 ?_;exact ⟨_,jd,rfl,rfl⟩
 | some n =>
  have ak:=(List.getElem?_eq_some_iff.1 hn).1
  have hd:decide (((nodes.map ay).length:Int)<=(a:Int))=false:=by simpa using ak
  have hr:(nodes.map ay)[a]?=some (ay n):=by rw [getElem?_map,hn];rfl
  have xL:=hk n (mem_of_getElem? hn);simp only;generalize hR:qh (om nodes f) n.kids (a+1) []=R;refine ai Tryz.func193 Tryz.ntmps193 ?_;refine GW.wk (Wk.Kw (i:=0) (o:=5) 152 1 rfl rfl) ?_
  refine GW.range (n.kids.map fun i=>[GV.v (ii i)]).length (fun k fr Γ=>∃ next acc m rows,fr=[.sl 5 (nodes.map ay),.v (ii (a:Nat)),.U,.U,.U,.U,.U,.loc 0 0,.v (ii (next:Nat)),.U,.U,.U,.U,.U,.U,.U,.U,.U,.U,.U,.U,.U,.U,.U,.U,.U,.U,.U,.U,.U,ints n.kids,.v (ii ((n.kids.map fun i=>[GV.v (ii i)]).length:Int)),.v (ii (k:Nat)),.U,.U,.U,.U,.U,.U,.U,.U,.U,.U,.U,.U,.U,.U,.U,.U,.U,.U,.U,.U,.U,.U,.U,.U,.U,.U,.U,.U,.U,.U,.U,.U,.U,.U,.U] /\
   Γ=[.box 190 [.v (ii n.kind),.v (ii n.at_),.v (ii n.n),.v (sv n.s),ints n.kids,.vec 1 m],.vec 152 1 0 rows]/\rows.length=m/\rows=ca acc/\m=k/\a+1<=next/\next<=nodes.length/\qh (om nodes f) (n.kids.drop k) next acc=R) ?_ (by simpa using xL) ?_ ?_ ?_
  ·exact ⟨_,_,Wk.aC aq,a+1,[],0,[],rfl,rfl,rfl,rfl,rfl,Nat.le_refl _,ak,hR⟩
  ·rintro k _ _ ⟨next,acc,m,rows,rfl,rfl,_⟩;exact dS
  ·rintro k _ _ eR ⟨next,acc,m,rows,rfl,rfl,hm,bt,tf,Iq,rD,h⟩
   have eR:k < n.kids.length:=by simpa using eR
   have cI:n.kids[k]?=some n.kids[k]:=by simp [eR]
   have td:(n.kids.map fun i=>[GV.v (ii i)])[k]?=some [.v (ii n.kids[k])]:=by rw [getElem?_map,cI];rfl
   rw [drop_eq_getElem_cons eR,qh] at h;generalize n.kids[k]=z at *
   by_cases hz:z=(next:Int)
   ·rw [if_pos hz] at h;subst hz
    have X6:((next:Int) != (next:Int))=false:=by simp
    have C8:=ih next ag ag
    cases hq:om nodes f next with
    | none =>
     rw [hq] at h C8;subst h;refine ae ?_;refine ab [] C8 ?_;refine q9 ?_;exact ⟨_,jd,rfl,rfl⟩
    | some x =>
     obtain ⟨t,e⟩:=x;rw [hq] at h C8;simp only at h
     obtain ⟨s1,s2,_,_⟩:=Go.Im.Av f next t e hq
     refine ae ?_;refine ab [] C8 ?_;refine eP ?_;refine ae ?_;exact ⟨rfl,rfl,_,_,Wk.aC aq,e,acc++[t],_,_,rfl,rfl,by simp [hm],by rw [Jd,bt],by omega,by omega,s2,h⟩
   ·rw [if_neg hz] at h;subst h
    have X6:(z != (next:Int))=true:=by simpa using hz
    refine ae ?_;refine q9 ?_;exact ⟨_,jd,rfl,rfl⟩
  ·rintro _ _ ⟨next,acc,m,rows,rfl,rfl,hm,bt,tf,Iq,rD,h⟩;rw [show n.kids.drop (n.kids.map fun i=>[GV.v (ii i)]).length=[] by simp,qh] at h;subst h;simp only;subst bt;refine bb ?_;refine GW.wk (Wk.yO (i:=0) (o:=5) (j:=1) rfl rfl rfl rfl hm) ?_
   by_cases h0:n.at_ < 0
   ·rw [if_pos h0]
    have sX:decide ((0:Int)<=n.at_)=false:=by simpa using h0
    refine ae ?_;refine aI (aB 0 11 .nil) ?_;refine bf ?_;rw [sX];refine GW.wk (Wk.freeze (i:=0) rfl rfl rfl (Nat.le_refl _)) ?_;refine q9 ?_;exact ⟨_,jd,rfl,rfl⟩
   ·rw [if_neg h0]
    have sX:decide ((0:Int)<=n.at_)=true:=by simpa using h0
    refine ae ?_;refine aI (aB 0 11 .nil) ?_;refine bf ?_;rw [sX];refine GW.wk (Wk.freeze (i:=0) rfl rfl rfl (Nat.le_refl _)) ?_;refine Jk ?_;exact ⟨rfl,rfl⟩
def BN (nodes:List Nd):Option (List T × Nat)->GV
 | none=>.tup [.U,.v (.bool false)]
 | some (l,e)=>.tup [.sl 1 (ca l),.v (.bool ((e:Int)==(nodes.length:Int)))]
theorem vQ (p:Src) (hl:p.nodes.length<=1099511627776) (hk:∀ n∈p.nodes,n.kids.length<=1099511627776) (hf:p.fns.length<=1099511627776) :
  GF Tryz.prog 155 [.agg (ax p)] [] (BN p.nodes (ji p.nodes p.fns 0 [])) []:=by
 generalize hR:ji p.nodes p.fns 0 []=R;refine ai Tryz.func155 Tryz.ntmps155 ?_;refine GW.wk (Wk.Cj (t:=4) (a:=none) (c:=0) 152 1 rfl) ?_
 refine GW.range (p.fns.map aw).length (fun k fr Γ=>∃ next acc m rows,fr=[.U,.loc 0 0,.U,.U,.vec 1 m,.v (ii (next:Nat)),.U,.U,.U,.U,.U,.U,.sl 3 (p.fns.map aw),.v (ii ((p.fns.map aw).length:Int)),.v (ii (k:Nat)),.U,.U,.U,.U,.U,.U,.U,.U,.U,.U,.U,.U,.U,.U,.U,.U,.U,.U,.U,.U,.U,.U,.U,.U,.U,.U,.U,.U,.U,.U,.U] /\
  Γ=[.box 34 (ax p),.vec 152 1 0 rows]/\rows.length=m/\rows=ca acc/\m=k/\next<=p.nodes.length/\ji p.nodes (p.fns.drop k) next acc=R) ?_ (by simpa using hf) ?_ ?_ ?_
 ·exact ⟨_,_,Wk.aC aq,0,[],0,[],rfl,rfl,rfl,rfl,rfl,Nat.zero_le _,hR⟩
 ·rintro k _ _ ⟨next,acc,m,rows,rfl,rfl,_⟩;exact dS
 ·rintro k _ _ eR ⟨next,acc,m,rows,rfl,rfl,hm,bt,tf,rD,h⟩
  have eR:k < p.fns.length:=by simpa using eR
  have cI:p.fns[k]?=some p.fns[k]:=by simp [eR]
  have td:(p.fns.map aw)[k]?=some (aw p.fns[k]):=by rw [getElem?_map,cI];rfl
  rw [drop_eq_getElem_cons eR,ji] at h;generalize p.fns[k]=fn at *
  have M2:=Qy p.nodes hl hk (p.nodes.length+1) next ag ag
  unfold tr at h
  cases hq:om p.nodes (p.nodes.length+1) next with
  | none =>
   rw [hq] at h M2;subst h;refine ae ?_;refine ab [] M2 ?_;refine GD ?_;exact ⟨_,jd,rfl,rfl⟩
  | some x =>
   obtain ⟨t,e⟩:=x;rw [hq] at h M2;simp only at h
   obtain ⟨s1,s2,_,_⟩:=Go.Im.Av _ next t e hq
   by_cases hb:fn.body=(next:Int)
   ·rw [if_pos hb] at h
    have bq:(fn.body != (next:Int))=false:=by simpa using hb
    refine ae ?_;refine ab [] M2 ?_;refine eP ?_;refine ae ?_;exact ⟨rfl,rfl,_,_,(Wk.cut (n:=2) (Nat.zero_le _) rfl).trans (Wk.aC aq),e,acc++[t],_,_,rfl,rfl,by simp [hm],by rw [Jd,bt],by omega,s2,h⟩
   ·rw [if_neg hb] at h;subst h
    have bq:(fn.body != (next:Int))=true:=by simpa using hb
    refine ae ?_;refine ab [] M2 ?_;refine GD ?_;exact ⟨_,jd,rfl,rfl⟩
 ·rintro _ _ ⟨next,acc,m,rows,rfl,rfl,hm,bt,tf,rD,h⟩;rw [show p.fns.drop (p.fns.map aw).length=[] by simp,ji] at h;subst h;subst bt;refine bb ?_;refine GW.wk (Wk.jw (t:=4) rfl rfl rfl hm) ?_
  have UL:p.nodes.length=(p.nodes.map ay).length:=by simp
  unfold BN;rw [UL];refine ae ?_;refine aI (aB 0 8 .nil) ?_;refine ar ?_;exact qZ
end Go.Xg
namespace Go.Xg
open Go.RowKit Go.Xw Go.Proofs
open Go.Xp (Tok Nd T bh one levels gm dL ed dr dc)
open Go.Sp
attribute [local irreducible] GW GL GO YG GC GA aU aZ
structure PX where
 a:Value
 b:Value
 c:Value
 d:Value
 e:Value
abbrev bK (p:RS) (x:PX):Ob:=.box 208 [iw p.l,.v (ii p.i),.v (ii p.e),.v (ii p.code),.v (ii p.at_),.v x.a,.v x.b,.v x.c,.v x.d,.v x.e]
theorem rp (p:RS) (k:Nat) (x:PX) (hp:p.ok) (hk:k<=1):GF Tryz.prog 241 [.loc 0 0,.v (ii (k:Nat))] [bK p x] (.agg (c8 (Go.Im.tok p k))) [bK p x]:=by
 obtain ⟨lA,dF⟩:=hp;unfold Go.Im.tok
 cases ht:p.l[p.i+k]? with
 | some t =>
  have hr:=kl ht;have ak:p.i+k < p.l.length:=(List.getElem?_eq_some_iff.1 ht).1
  have hd:decide (((p.l.map c8).length:Int)<=((p.i+k:Nat):Int))=false:=by simpa using by omega
  refine ai Tryz.func241 Tryz.ntmps241 ?_;refine aI (aB 0 12 .nil) ?_;refine bf ?_;refine aI (aB 0 12 (.a 12 .nil)) ?_;refine ar ?_;exact o9
 | none =>
  have ak:p.l.length<=p.i+k:=List.getElem?_eq_none_iff.1 ht
  have hd:decide (((p.l.map c8).length:Int)<=((p.i+k:Nat):Int))=true:=by simpa using by omega
  refine ai Tryz.func241 Tryz.ntmps241 ?_;refine aI (aB 0 12 .nil) ?_;refine ar ?_;exact o9
theorem EK (p:RS) (c a:Int) (x:PX):GF Tryz.prog 270 [.loc 0 0,.v (ii c),.v (ii a)] [bK p x] (.tup []) [bK (p.fail c a) x]:=by
 unfold RS.fail
 by_cases h:p.code=0
 ·have h':(p.code==0)=true:=by simpa using h
  rw [if_pos h];refine ai Tryz.func270 Tryz.ntmps270 ?_;exact fT
 ·have h':(p.code==0)=false:=by simpa using h
  rw [if_neg h];refine ai Tryz.func270 Tryz.ntmps270 ?_;exact fT
theorem yS (p:RS) (x:PX) (hp:p.ok):GF Tryz.prog 242 [.loc 0 0] [bK p x] (.tup []) [bK (Go.Im.jW p) x]:=by
 have ht:=rp p 0 x hp aJ;unfold Go.Im.jW;generalize Go.Im.tok p 0=t at *;have hf:=EK p 7 t.at_ x;refine ai Tryz.func242 Tryz.ntmps242 ?_;refine ab [0] ht ?_;refine ab [0] hf ?_;exact fT
theorem vW (p:RS) (d:Nat) (x:PX) (hp:p.ok):GF Tryz.prog 272 [.loc 0 0,.v (ii (d:Nat))] [bK p x] (.v (.bool ((Go.Im.bM p d).code==0))) [bK (Go.Im.bM p d) x]:=by
 have ht:=rp p 0 x hp aJ;unfold Go.Im.bM;generalize Go.Im.tok p 0=t at *
 by_cases h:d > 60
 ·have h':decide ((60:Int) < (d:Int))=true:=by simpa using by omega
  rw [if_pos h];have hf:=EK p 9 t.at_ x;generalize p.fail 9 t.at_=q at *;refine ai Tryz.func272 Tryz.ntmps272 ?_;refine ab [0] ht ?_;refine ab [0] hf ?_;exact al
 ·have h':decide ((60:Int) < (d:Int))=false:=by simpa using by omega
  rw [if_neg h];refine ai Tryz.func272 Tryz.ntmps272 ?_;exact al
theorem jN (p:RS) (k:Nat) (s:ah) (x:PX) (hp:p.ok) (hk:k<=1):GF Tryz.prog 239 [.loc 0 0,.v (ii (k:Nat)),.v (sv s)] [bK p x] (.v (.bool (Go.Im.is p k s))) [bK p x]:=by
 have ht:=rp p k x hp hk;unfold Go.Im.is;generalize Go.Im.tok p k=t at *
 cases h:(t.kind==3) with
 | true =>
  rw [Bool.true_and];refine ai Tryz.func239 Tryz.ntmps239 ?_;refine ab [0] ht ?_;exact al
 | false =>
  rw [Bool.false_and];refine ai Tryz.func239 Tryz.ntmps239 ?_;refine ab [0] ht ?_;exact al
theorem qP (p:RS) (x:PX) (hp:p.ok):GF Tryz.prog 240 [.loc 0 0] [bK p x] (.v (sv (Go.Im.tok p 0).s)) [bK (Go.Im.bm p) x]:=by
 have ht:=rp p 0 x hp aJ;have hw:=yS p x hp;have UR:=hp.2;have Db:=hp.1;unfold Go.Im.bm;generalize Go.Im.tok p 0=t at *;have hf:=EK p 8 t.at_ x
 by_cases hc:p.code=0
 ·have dq:(p.code != 0)=false:=by simpa using hc
  rw [if_pos hc]
  by_cases h2:t.kind=2
  ·have qp:(t.kind != 2)=false:=by simpa using h2
   rw [if_pos h2]
   by_cases hl:t.s.length > 12
   ·have iM:decide ((12:Int) < (t.s.length:Int))=true:=by simpa using by omega
    rw [if_pos hl];refine ai Tryz.func240 Tryz.ntmps240 ?_;refine ab [0] ht ?_;refine ab [0] hf ?_;exact al
   ·have iM:decide ((12:Int) < (t.s.length:Int))=false:=by simpa using by omega
    rw [if_neg hl];refine ai Tryz.func240 Tryz.ntmps240 ?_;refine ab [0] ht ?_;exact al
  ·have qp:(t.kind != 2)=true:=by simpa using h2
   rw [if_neg h2];refine ai Tryz.func240 Tryz.ntmps240 ?_;refine ab [0] ht ?_;refine ab [0] hw ?_;exact al
 ·have dq:(p.code != 0)=true:=by simpa using hc
  rw [if_neg hc];refine ai Tryz.func240 Tryz.ntmps240 ?_;refine ab [0] ht ?_;exact al
theorem eL (p:RS) (s:ah) (x:PX) (hp:p.ok):GF Tryz.prog 243 [.loc 0 0,.sl 1 [[.v (sv s)]]] [bK p x] (.tup []) [bK (Go.Im.want p s) x]:=by
 have hi:=jN p 0 s x hp aJ;have hw:=yS p x hp;have UR:=hp.2;have Db:=hp.1;unfold Go.Im.want;generalize Go.Im.jW p=q at *;have hr:([[GV.v (sv s)]]:List (List GV))[0]?=some [.v (sv s)]:=rfl;refine ai Tryz.func243 Tryz.ntmps243 ?_
 by_cases hc:p.code=0
 ·have dq:(p.code != 0)=false:=by simpa using hc
  rw [if_pos hc]
  cases h:Go.Im.is p 0 s with
  | true =>
   rw [h] at hi;rw [if_pos rfl];refine GW.range 1 (fun k fr Γ=>fr=[.loc 0 0,.U,.U,.U,.U,.U,.sl 1 [[.v (sv s)]],.v (ii ((1:Nat):Int)),.v (ii (k:Nat)),.U,.U,.U,.U,.U,.U,.U,.U,.U,.U,.U,.U,.U,.U,.U,.U,.U,.U,.U,.U,.U,.U]/\((k=0/\Γ=[bK p x])\/(1<=k/\Γ=[bK p.next x]))) ?_ aJ ?_ ?_ ?_
   ·exact ⟨_,_,Wk.aC aq,rfl,.inl ⟨rfl,rfl⟩⟩
   ·rintro k _ _ ⟨rfl,_⟩;exact dS
   ·rintro k _ _ hk ⟨rfl,⟨rfl,rfl⟩ | ⟨h1,_⟩⟩
    ·refine ae ?_;refine ab [0] hi ?_;exact ⟨rfl,rfl,_,_,Wk.aC aq,rfl,.inr ⟨Nat.le_refl _,rfl⟩⟩
    ·omega
   ·rintro _ _ ⟨rfl,⟨h1,_⟩ | ⟨_,rfl⟩⟩
    ·cases h1
    ·exact me
  | false =>
   rw [h] at hi;rw [if_neg aJ];refine GW.range 1 (fun k fr Γ=>fr=[.loc 0 0,.U,.U,.U,.U,.U,.sl 1 [[.v (sv s)]],.v (ii ((1:Nat):Int)),.v (ii (k:Nat)),.U,.U,.U,.U,.U,.U,.U,.U,.U,.U,.U,.U,.U,.U,.U,.U,.U,.U,.U,.U,.U,.U]/\k=0/\Γ=[bK p x]) ?_ aJ ?_ ?_ ?_
   ·exact jy
   ·rintro k _ _ ⟨rfl,_⟩;exact dS
   ·rintro k _ _ hk ⟨rfl,rfl,rfl⟩;refine ae ?_;refine ab [0] hi ?_;refine ab [0] hw ?_;exact fT
   ·rintro _ _ ⟨rfl,h1,_⟩;cases h1
 ·have dq:(p.code != 0)=true:=by simpa using hc
  rw [if_neg hc];refine GW.range 1 (fun k fr Γ=>fr=[.loc 0 0,.U,.U,.U,.U,.U,.sl 1 [[.v (sv s)]],.v (ii ((1:Nat):Int)),.v (ii (k:Nat)),.U,.U,.U,.U,.U,.U,.U,.U,.U,.U,.U,.U,.U,.U,.U,.U,.U,.U,.U,.U,.U,.U]/\k=0/\Γ=[bK p x]) ?_ aJ ?_ ?_ ?_
  ·exact jy
  ·rintro k _ _ ⟨rfl,_⟩;exact dS
  ·rintro k _ _ hk ⟨rfl,rfl,rfl⟩;exact me
  ·rintro _ _ ⟨rfl,h1,_⟩;cases h1
end Go.Xg
namespace Go.Xg
open Go.RowKit Go.Xw Go.Proofs
open Go.Xp (Tok Nd T bh one levels)
open Go.Sp
attribute [local irreducible] GW GL GO YG GC GA aU aZ
mutual
def pT:T->GV
 | .mk n l=>.box [.v (ii n.kind),.v (ii n.at_),.v (ii n.n),.v (sv n.s),.v (.slice none 0 0),.sl 1 (kc l)] 0
def kc:List T->List (List GV)
 | []=>[]
 | t::r=>[pT t]::kc r
end
abbrev qT (t:T):GV:=.box [.v (ii t.n.kind),.v (ii t.n.at_),.v (ii t.n.n),.v (sv t.n.s),.v (.slice none 0 0),.sl 1 (kc t.kids)] 0
theorem Xl (t:T):pT t=qT t:=by cases t;rw [pT];rfl
theorem gh (l:List T):kc l=l.map fun t=>[qT t]:=by
 induction l with
 | nil=>rfl
 | cons t l ih=>rw [kc,ih,Xl];rfl
theorem mN (l:List T):(kc l).length=l.length:=by rw [gh];simp
theorem vy (l:List T) (t:T):kc (l++[t])=kc l++[[qT t]]:=by rw [gh,gh];simp
theorem Bp {l:List T} {i:Nat} {t:T} (h:l[i]?=some t):(kc l)[i]?=some [qT t]:=by rw [gh,getElem?_map,h];rfl
theorem NI (k a:Int) (s:ah) (rows:List (List GV)):GF Tryz.prog 271 [.v (ii k),.v (ii a),.v (sv s),.sl 1 rows] [] (.loc 0 0) [.box 190 [.v (ii k),.v (ii a),.v (ii 0),.v (sv s),.v (.slice none 0 0),.sl 1 rows]]:=by
 refine ai Tryz.func271 Tryz.ntmps271 ?_;refine GW.wk (Wk.cells 0 rfl (ds:=[.v (ii k),.v (ii a),.v (ii 0),.v (sv s),.v (.slice none 0 0),.sl 1 rows]) jd) ?_;refine GW.ret ?_;refine rY (n:=1) rfl cj rfl (Nat.zero_le _) rfl rfl ?_;exact ⟨rfl,rfl⟩
theorem ew (k a:Int) (s:ah) (l:List T) (rows:List (List GV)) (h:kc l=rows):GF Tryz.prog 271 [.v (ii k),.v (ii a),.v (sv s),.sl 1 rows] [] (qT (one k a s l)) []:=by
 subst h;refine ai Tryz.func271 Tryz.ntmps271 ?_;refine GW.wk (Wk.cells 0 rfl (ds:=[.v (ii k),.v (ii a),.v (ii 0),.v (sv s),.v (.slice none 0 0),.sl 1 (kc l)]) jd) ?_;refine GW.wk (Wk.freeze (i:=0) rfl rfl rfl (Nat.zero_le _)) ?_;exact al
theorem tu:GF Tryz.prog 233 [] [] (.sl 1 (levels.map fun l=>[strs l])) []:=by
 refine ai Tryz.func233 Tryz.ntmps233 ?_
 iterate 10 (refine bS ?_)
 exact av
end Go.Xg
namespace Go.Xg
open Go.RowKit Go.Xw Go.Proofs
open Go.Xp (Tok Nd T levels cB bC aP az)
open Go.Im (nW rM tR lk cP fA tJ jE fM o0 p7)
attribute [local irreducible] GW GL GO YG GC GA aU aZ
theorem decDigits_eq (n:Nat):Go.Lib.decDigits n=cB n:=by
 induction n using Nat.strongRecOn with
 | _ n ih =>
  unfold Go.Lib.decDigits cB;split
  ·rfl
  ·rw [ih (n / 10) ag]
theorem SE (n:Int):Go.Lib.itoa n=nW n:=by
 unfold Go.Lib.itoa nW;rw [decDigits_eq,decDigits_eq]
theorem Lr (n:Int) (h0 : -9223372036854775808<=n) (h1:n<=9223372036854775807):GF Tryz.prog 195 [.v (ii n)] [] (.v (sv (nW n))) []:=by
 refine GF.Vo (vs:=[ii n]) fun K β w ht hf=>?_
 obtain ⟨E,z,lg⟩:=sM.all ht hf ht.pow (zs:=vz.map fun z=>Value.int .u64 z) aJ (fun m o x hx=>by
  rw [getElem?_map] at hx;unfold xg;rw [if_neg aJ,if_pos rfl]
  cases hs:vz[o]? with
  | none=>rw [hs] at hx;cases hx
  | some y=>rw [hs] at hx;cases hx;rfl)
 have zX:Go.Lib.TabIs Tryz.prog w "internal/strconv.uint64pow10" .u64 Go.Lib.pow10Tab:=by
  unfold Go.Lib.TabIs World.var?;rw [show Tryz.prog.globalNamed "internal/strconv.uint64pow10" = some 3 by kernel_rfl,show Go.Lib.pow10Tab=vz by decide];simp only [Option.bind_some,lg]
 refine mh.pB (Calls.mono (Tryz.strconv_Itoa n h0 h1 w zX) ?_);rintro e w' ⟨h2,k,os,h3⟩;refine ⟨_,h2,by rw [SE];rfl,?_⟩;subst h3;refine ⟨rfl,rfl,rfl,by simp [Go.Sort.grow,World.drewN],fun j hj _=>?_⟩;simp only [Go.Sort.grow,World.drewN];rw [Array.getElem?_append_left hj]
theorem PT (l:List ah) (s:ah) (hl:l.length<=1099511627776):GF Tryz.prog 234 [strs l,.box [.v (sv s)] 0] [] (.v (.bool (l.contains s))) []:=by
 have h:=kp l s hl;generalize l.contains s=b at *;refine ai Tryz.func234 Tryz.ntmps234 ?_;refine ab [] h ?_;exact al
def B9 (ls:List (List ah)) (s:ah):Int:=match ls.findIdx? (fun l=>l.contains s) with | some i=>(i:Int) | none => -1
theorem G1 (ls:List (List ah)) (s:ah) (hn:ls.length<=1099511627776) (hl:∀ l∈ls,l.length<=1099511627776) :
  GF Tryz.prog 232 [.sl 1 (ls.map fun l=>[strs l]),.fn (.func 234) [] [.box [.v (sv s)] 0]] [] (.v (ii (B9 ls s))) []:=by
 have dI:(ls.map fun l=>[strs l]).length=ls.length:=by simp
 refine ai Tryz.func232 Tryz.ntmps232 ?_;refine GW.range (ls.map fun l=>[strs l]).length (fun k fr Γ=>fr=[.sl 1 (ls.map fun l=>[strs l]),.fn (.func 234) [] [.box [.v (sv s)] 0],.U,.U,.U,.U,.U,.v (ii ((ls.map fun l=>[strs l]).length:Int)),.v (ii (k:Nat)),.U,.U,.U,.U,.U,.U,.U,.U,.U,.U]/\Γ=[]/\(ls.take k).all (fun l=>!(l.contains s))=true) ?_ ag ?_ ?_ ?_
 ·exact jy
 ·exact gx
 ·rintro k _ _ ak ⟨rfl,rfl,aQ⟩;rw [dI] at ak
  have cI:ls[k]?=some ls[k]:=by simp [ak]
  have hr:(ls.map fun l=>[strs l])[k]?=some [strs ls[k]]:=by rw [getElem?_map,cI];rfl
  have hc:=PT ls[k] s (hl _ (getElem_mem ak))
  have bu:(ls.take (k+1)).all (fun l=>!(l.contains s))=((ls.take k).all (fun l=>!(l.contains s))&&!(ls[k].contains s)):=by rw [take_add_one,cI,all_append];simp
  have zh:ls[k].contains s=true->B9 ls s=(k:Int):=fun h0=>by
   have:ls.findIdx? (fun l=>l.contains s)=some k:=by
    rw [List.findIdx?_eq_some_iff_getElem];refine ⟨ak,h0,fun j hj=>?_⟩;rw [all_eq_true] at aQ;have:=aQ ls[j] (by rw [List.mem_take_iff_getElem];exact ⟨j,by omega,rfl⟩);simpa using this
   unfold B9;rw [this]
  generalize ls[k]=l at *
  cases hb:l.contains s with
  | true =>
   rw [hb] at hc;rw [zh hb];refine ae ?_;refine kY [] hc ?_;exact av
  | false =>
   rw [hb] at hc bu;refine ae ?_;refine kY [] hc ?_;refine ae ?_;exact ⟨rfl,rfl,_,_,Wk.aC aq,rfl,rfl,by rw [bu,aQ];rfl⟩
 ·rintro _ _ ⟨rfl,rfl,aQ⟩;rw [dI,take_length] at aQ
  have:ls.findIdx? (fun l=>l.contains s)=none:=by
   rw [List.findIdx?_eq_none_iff];intro x hx;rw [all_eq_true] at aQ;simpa using aQ x hx
  unfold B9;rw [this];exact av
theorem Dn (s:ah):GF Tryz.prog 200 [.v (sv s)] [] (.v (ii (rM s))) []:=by
 have h1:=tu;have h2:=G1 levels s aJ aJ;rw [show rM s=B9 levels s from rfl];generalize B9 levels s=z at *;generalize levels=ls at *;refine ai Tryz.func200 Tryz.ntmps200 ?_;refine GL.wk (Wk.freeze (i:=0) rfl rfl rfl (Nat.le_refl _)) ?_;refine GN (by simp only [ot,ny];rfl) ?_;refine ab [] h1 ?_;refine ab [] h2 ?_;exact al
end Go.Xg
namespace Go.Xg
open Go.RowKit Go.Xw Go.Proofs
open Go.Xp (Tok Nd T levels cB bC aP az)
open Go.Im (nW rM tR lk cP fA tJ jE fM o0 p7 fP uH cX)
attribute [local irreducible] GW GL GO YG GC GA aU aZ
theorem Nw (t:T) (z:Int):GF Tryz.prog 201 [uT t,.v (ii z)] [] (.v (.bool (lk t z))) []:=by
 have h:=Dn t.n.s;unfold lk
 cases hk:(t.n.kind==6) with
 | true =>
  generalize rM t.n.s=y at *;refine ai Tryz.func201 Tryz.ntmps201 ?_;refine ab [] h ?_;exact al
 | false =>
  refine ai Tryz.func201 Tryz.ntmps201 ?_;exact al
theorem uB (t:T) (b:Bool) (x:ah) (hx:x.length<=1099511627776) (h:GF Tryz.prog 160 [uT t] [] (.v (sv x)) []) :
  GF Tryz.prog 199 [uT t,.v (.bool b)] [] (.v (sv (tR b x))) []:=by
 unfold tR
 cases b with
 | true =>
  refine ai Tryz.func199 Tryz.ntmps199 ?_;refine ab [] h ?_;exact al
 | false =>
  refine ai Tryz.func199 Tryz.ntmps199 ?_;refine ab [] h ?_;exact al
theorem PV (ex:FuncId) [hf:aH Tryz.prog ex] (tx:T->ah) (l:List T) (h:∀ t∈l,GF Tryz.prog ex [uT t] [] (.v (sv (tx t))) []) (hj:(bC (l.map tx)).length<=1099511627776) (hl:l.length<=1099511627776) :
  GF Tryz.prog 198 [.sl 1 (ca l),.v (.func (.func ex) #[] #[])] [] (.v (sv (bC (l.map tx)))) []:=by
 have pn:=qW l;have hJ:=Ls (l.map tx) hj (by simpa using hl);refine ai Tryz.func198 Tryz.ntmps198 ?_;refine GW.wk (Wk.Cj (t:=5) (a:=none) (c:=0) 9 1 rfl) ?_;refine GW.range (ca l).length (fun k fr Γ=>∃ m rows,fr=[.sl 1 (ca l),.v (.func (.func ex) #[] #[]),.U,.U,.U,.vec 0 m,.U,.U,.sl 1 (ca l),.v (ii ((ca l).length:Int)),.v (ii (k:Nat)),.U,.U,.U,.U,.U,.U,.U,.U,.U,.U,.U,.U]/\Γ=[.vec 9 1 0 rows]/\rows.length=m/\rows=((l.take k).map tx).map (fun s=>[GV.v (sv s)])/\m=k) ?_ ag ?_ ?_ ?_
 ·exact ⟨_,_,Wk.aC aq,0,[],rfl,rfl,rfl,rfl,rfl⟩
 ·rintro k _ _ ⟨m,rows,rfl,rfl,_⟩;exact dS
 ·rintro k _ _ ak ⟨m,rows,rfl,rfl,hm,bt,tf⟩;rw [pn] at ak
  have cI:l[k]?=some l[k]:=by simp [ak]
  have hr:=vB cI;have ht:=h l[k] (getElem_mem ak)
  have bu:((l.take (k+1)).map tx).map (fun s=>[GV.v (sv s)])=rows++[[.v (sv (tx l[k]))]]:=by rw [take_add_one,cI,bt,map_append,map_append];rfl
  generalize l[k]=t at *;refine ae ?_;refine iC [] ht ?_;refine ae ?_;refine eP ?_;refine ae ?_;exact ⟨rfl,rfl,_,_,Wk.aC aq,_,_,rfl,rfl,by simp [hm],bu.symm,by omega⟩
 ·rintro _ _ ⟨m,rows,rfl,rfl,hm,bt,tf⟩;rw [pn,take_length] at bt;refine bb ?_;refine GW.wk (Wk.jw (t:=5) rfl rfl rfl hm) ?_;subst bt;refine ae ?_;refine ab [] hJ ?_;exact al
theorem WQ {t:T} (h:cX t.n.kind t.kids.length=true) (hk:t.n.kind=3\/t.n.kind=5):∃ a,t.kids=[a]:=by
 have:t.kids.length=1:=by
  unfold cX at h
  rcases hk with hk | hk <;> rw [hk] at h <;> simp at h <;> omega
 match hl:t.kids,this with
 | [a],_=>exact ⟨a,rfl⟩
theorem WR {t:T} (h:cX t.n.kind t.kids.length=true) (hk:t.n.kind=6):∃ a b,t.kids=[a,b]:=by
 have:t.kids.length=2:=by
  unfold cX at h;rw [hk] at h;simp at h;omega
 match hl:t.kids,this with
 | [a,b],_=>exact ⟨a,b,rfl⟩
theorem Tp:∀ (N:Nat) (t:T),aP t<=N->fP t=true->o0 t->jE t<=1099511627776->GF Tryz.prog 160 [uT t] [] (.v (sv (cP t))) []:=by
 intro N
 induction N with
 | zero=>intro t h;rw [Go.Xp.ef] at h;omega
 | succ N ih =>
 intro t hN hk hn hw;have hlen:=Go.Im.vJ _ t (Nat.le_refl _) hn;rw [Go.Xp.ef] at hN;rw [Go.Im.xU,Bool.and_eq_true,Go.Im.tq,all_eq_true] at hk;rw [Go.Im.qS] at hn
 have fp:∀ a∈t.kids,GF Tryz.prog 160 [uT a] [] (.v (sv (cP a))) []/\(cP a).length<=1099511627776:=fun a ha=>by
  have h1:=Go.Im.tL ha;rw [Go.Im.oQ] at hw;have h3:=Go.Im.jD hn.2 ha
  have h2:aP a<=az t.kids:=by
   have:∀ (l:List T),a∈l->aP a<=az l:=by
    intro l
    induction l with
    | nil=>intro h;cases h
    | cons b l ih2 =>
     intro h;rw [az]
     rcases List.mem_cons.1 h with rfl | h
     ·omega
     ·have:=ih2 h;omega
   exact this _ ha
  have h4:=Go.Im.vJ _ a (Nat.le_refl _) h3;exact ⟨ih a ag (hk.2 a ha) h3 ag,by omega⟩
 rw [Go.Im.N7] at hlen |-;unfold tJ at hlen |-;have rA:=hk.1;have XQ:=@WQ t rA;have Zd:=@WR t rA;have UK:=Lr t.n.n hn.1.1 hn.1.2;have Ip:=Dn t.n.s
 have eR:t.kids.length<=1099511627776:=by
  have:=Go.Im.PQ t.kids;rw [Go.Im.oQ] at hw;omega
 have D4:=fun hj=>PV 160 cP t.kids (fun a ha=>(fp a ha).1) hj eR
 rw [<-Go.Im.Cz] at D4
 have ua:t.n.s.length<=1099511627776:=by rw [Go.Im.oQ] at hw;omega
 have MV:(bC (fA t.kids)).length<=1099511627776:=by
  have h1:=Go.Im.Ab (fA t.kids)
  have h2:((fA t.kids).map fun y=>y.length+2).sum<=fM t.kids:=by
   have:∀ (l:List T),p7 l->((fA l).map fun y=>y.length+2).sum<=fM l:=by
    intro l
    induction l with
    | nil=>intro _;simp [fA]
    | cons a l ih2 =>
     intro h;rw [p7] at h;have h1:=Go.Im.vJ _ a (Nat.le_refl _) h.1;have h2:=ih2 h.2;rw [fA,fM,List.map_cons,sum_cons];omega
   exact this _ hn.2
  rw [Go.Im.oQ] at hw;omega
 have D4:=D4 MV;clear MV;unfold uT;generalize iL:t.n.kind=kd at *
 by_cases h1:kd=1
 ·subst h1
  have f1:((1:Int)==1)=true:=by decide
  rw [if_pos rfl];refine ai Tryz.func160 Tryz.ntmps160 ?_;refine ab [] UK ?_;exact al
 rw [if_neg h1] at hlen |-
 have g1:(kd==1)=false:=by simpa using h1
 by_cases h3:kd=3
 ·subst h3
  have f1:((3:Int)==1)=false:=by decide
  have f3:((3:Int)==3)=true:=by decide
  rw [if_pos rfl] at hlen |-;obtain ⟨a,ha⟩:=XQ (.inl rfl);rw [ha] at fp hlen |-;obtain ⟨c1,c2⟩:=fp a (List.mem_singleton.2 rfl)
  have hr:(ca [a])[0]?=some [uT a]:=by rw [ko];rfl
  simp only [fA,getD_cons_zero] at hlen |-;generalize ca [a]=rows at *;generalize cP a=x at *;refine ai Tryz.func160 Tryz.ntmps160 ?_;refine aI (aB 0 12 (.a 12 (aB 13 3 .nil))) ?_;refine ar ?_;refine aE [] c1 ?_;exact av
 rw [if_neg h3] at hlen |-
 have g3:(kd==3)=false:=by simpa using h3
 by_cases h4:kd=4
 ·subst h4
  have f1:((4:Int)==1)=false:=by decide
  have f3:((4:Int)==3)=false:=by decide
  have f4:((4:Int)==4)=true:=by decide
  rw [if_pos rfl] at hlen |-;generalize ca t.kids=rows at *;generalize bC (fA t.kids)=x at *;simp only [length_append,length_cons,length_nil] at hlen;refine ai Tryz.func160 Tryz.ntmps160 ?_;refine aI (aB 0 10 (.a 10 (aB 11 3 .nil))) ?_;refine ar ?_;refine aE [] D4 ?_;exact av
 rw [if_neg h4] at hlen |-
 have g4:(kd==4)=false:=by simpa using h4
 by_cases h5:kd=5
 ·subst h5
  have f1:((5:Int)==1)=false:=by decide
  have f3:((5:Int)==3)=false:=by decide
  have f4:((5:Int)==4)=false:=by decide
  have f5:((5:Int)==5)=true:=by decide
  rw [if_pos rfl] at hlen |-;obtain ⟨a,ha⟩:=XQ (.inr rfl);rw [ha] at fp hlen |-;obtain ⟨c1,c2⟩:=fp a (List.mem_singleton.2 rfl)
  have hr:(ca [a])[0]?=some [uT a]:=by rw [ko];rfl
  simp only [fA,getD_cons_zero] at hlen |-;have Uv:=uB a (a.n.kind==6) (cP a) c2 c1;have nc:=Go.Im.yl (a.n.kind==6) (cP a);generalize ca [a]=rows at *;generalize hxx:tR (a.n.kind==6) (cP a)=x at *;refine ai Tryz.func160 Tryz.ntmps160 ?_;refine aI (aB 0 23 (.a 23 (.q 24 (.q 25 .nil)))) ?_;refine ar ?_;refine aE [] Uv ?_;exact av
 rw [if_neg h5] at hlen |-
 have g5:(kd==5)=false:=by simpa using h5
 by_cases h6:kd=6
 ·subst h6
  have f1:((6:Int)==1)=false:=by decide
  have f3:((6:Int)==3)=false:=by decide
  have f4:((6:Int)==4)=false:=by decide
  have f5:((6:Int)==5)=false:=by decide
  have f6:((6:Int)==6)=true:=by decide
  rw [if_pos rfl] at hlen |-;obtain ⟨a,b,ha⟩:=Zd rfl;rw [ha] at fp hlen |-;obtain ⟨c1,c2⟩:=fp a (List.mem_cons_self);obtain ⟨d1,d2⟩:=fp b (List.mem_cons_of_mem _ List.mem_cons_self)
  have hr:(ca [a,b])[0]?=some [uT a]:=by rw [ko];rfl
  have fX:(ca [a,b])[1]?=some [uT b]:=by rw [ko];rfl
  simp only [fA,getD_cons_zero,getD_cons_succ] at hlen |-
  have aaq : -1<=rM t.n.s/\rM t.n.s<=9:=by
   unfold rM
   cases hf:levels.findIdx? (fun l=>l.contains t.n.s) with
   | none=>simp
   | some i =>
    rw [List.findIdx?_eq_some_iff_getElem] at hf;have:=hf.1
    have h9:levels.length=9:=by decide
    simp only;omega
  generalize rM t.n.s=lv at *;have eS:=Nw a lv;have jA:=Nw b (lv+1);have Uv:=uB a (lk a lv) (cP a) c2 c1;have Y2:=uB b (lk b (lv+1)) (cP b) d2 d1;generalize ca [a,b]=rows at *;generalize hxx:tR (lk a lv) (cP a)=x at *;generalize hyy:tR (lk b (lv+1)) (cP b)=y at *;simp only [length_append,length_cons,length_nil] at hlen;refine ai Tryz.func160 Tryz.ntmps160 ?_;refine ab [] Ip ?_;refine aI (aB 0 14 (aB 17 5 (aB 24 15 (.a 14 (.a 15 (.q 16 (.q 22 (.q 23 (.a 39 (.a 40 (.q 41 (.q 42 .nil)))))))))))) ?_;refine ar ?_;refine yf [] eS ?_;refine ar ?_;refine aE [] Uv ?_;refine yf [] jA ?_;refine ar ?_;refine aE [] Y2 ?_;exact av
 rw [if_neg h6]
 have g6:(kd==6)=false:=by simpa using h6
 refine ai Tryz.func160 Tryz.ntmps160 ?_;exact al
end Go.Xg
set_option maxHeartbeats 2000000
namespace Go.Xg
open Go.RowKit Go.Xw Go.Proofs
open Go.Xp (Tok Nd T levels cB bC aP az)
open Go.Im
attribute [local irreducible] GW GL GO YG GC GA aU aZ
abbrev iF (f:FuncId):Value:=.func (.func f) #[] #[]
theorem Pv (l:List ah) (d:Nat) (hb:(ft l d).length<=1099511627776) (hl:l.length<=1099511627776):GF Tryz.prog 161 [strs l,.v (ii (d:Nat))] [] (.v (sv (ft l d))) []:=by
 have dI:(l.map fun s=>[GV.v (sv s)]).length=l.length:=by simp
 have zg:=sR l [123,32];unfold ft at hb |-;rw [length_append,zg] at hb;refine ai Tryz.func161 Tryz.ntmps161 ?_;refine GW.range (l.map fun s=>[GV.v (sv s)]).length (fun k fr Γ=>fr=[strs l,.U,.U,.U,.U,.v (sv (rX [123,32] (l.take k))),.U,.U,strs l,.v (ii ((l.map fun s=>[GV.v (sv s)]).length:Int)),.v (ii (k:Nat)),.U,.U,.U,.U,.U,.U,.U,.U,.U,.U]/\Γ=[]) ?_ ag ?_ ?_ ?_
 ·exact jn
 ·rintro k _ _ ⟨rfl,rfl⟩;exact dS
 ·rintro k _ _ ak ⟨rfl,rfl⟩;rw [dI] at ak
  have cI:l[k]?=some l[k]:=by simp [ak]
  have td:(l.map fun s=>[GV.v (sv s)])[k]?=some [.v (sv l[k])]:=by rw [getElem?_map,cI];rfl
  have h1:=sR (l.take (k+1)) [123,32];have h2:=N3 l (k+1)
  have hz:kh (l.take (k+1))=kh (l.take k)+(l[k].length+1):=by rw [take_add_one,cI,Gp];simp [kh]
  have h3:=sR (l.take k) [123,32];rw [show l.take (k+1)=l.take k++[l[k]] by rw [take_add_one,cI];rfl,LM] at |-;generalize l[k]=z at *;generalize rX [123,32] (l.take k)=acc at *;simp only [length_cons,length_nil] at h3 hb
  have aai:acc.length+z.length+3<=1099511627777:=by omega
  refine ae ?_;exact ⟨rfl,rfl,_,_,Wk.aC aq,rfl,rfl⟩
 ·rintro _ _ ⟨rfl,rfl⟩;rw [dI,take_length];generalize rX [123,32] l=acc at *;simp only [length_append,length_cons,length_nil] at zg hb;exact av
theorem W6 (ex bk:FuncId) [hf:aH Tryz.prog ex] (tx:T->ah) (t a:T) (k:Nat) (hk:t.kids[k]?=some a) (h:GF Tryz.prog ex [uT a] [] (.v (sv (tx a))) []) :
  GF Tryz.prog 265 [.v (ii (k:Nat)),.box [.v (iF ex),.v (iF bk)] 0,.box [uT t] 0] [] (.v (sv (tx a))) []:=by
 have hr:=vB hk;generalize tx a=x at *;refine ai Tryz.func265 Tryz.ntmps265 ?_;refine aI (aB 0 9 (.a 9 (.q 10 .nil))) ?_;refine ar ?_;refine yf [] h ?_;refine ar ?_;exact av
structure Wr (ex bk:FuncId) (tx:T->ah) (inl:List ah->Nat->ah):Prop where
 expr:∀ a,fP a=true->o0 a->jE a<=1099511627776->GF Tryz.prog ex [uT a] [] (.v (sv (tx a))) []
 block:∀ l (d:Nat),(inl l d).length<=1099511627776->l.length<=1099511627776->d<=1099511627776->GF Tryz.prog bk [strs l,.v (ii (d:Nat))] [] (.v (sv (inl l d))) []
 mem:∀ l d s,s∈l->s.length<=(inl l d).length
theorem y5 (ex bk:FuncId) [he:aH Tryz.prog ex] [hb:aH Tryz.prog bk] (tx:T->ah) (inl:List ah->Nat->ah) (W:Wr ex bk tx inl) (t:T) (d:Nat) (hd:d+1<=1099511627776) (hl:t.kids.length<=1099511627776) (hlen:(na tx inl d t).length<=1099511627776)
  (h:∀ a∈t.kids,(jU tx inl (d+1) a).length<=1099511627776->GF Tryz.prog 231 [.agg [.v (iF ex),.v (iF bk)],uT a,.v (ii ((d+1:Nat):Int))] [] (.v (sv (jU tx inl (d+1) a))) []) :
  GF Tryz.prog 197 [.agg [.v (iF ex),.v (iF bk)],uT t,.v (ii (d:Nat))] [] (.v (sv (na tx inl d t))) []:=by
 have pn:=qW t.kids;rw [LH,I8] at hlen |-;have dj:=W.block (t.kids.map (jU tx inl (d+1))) d hlen (by simpa using hl) ag
 have hk:∀ a∈t.kids,GF Tryz.prog 231 [.agg [.v (iF ex),.v (iF bk)],uT a,.v (ii ((d+1:Nat):Int))] [] (.v (sv (jU tx inl (d+1) a))) []:=fun a ha =>
  h a ha (Nat.le_trans (W.mem _ d _ (List.mem_map.2 ⟨a,ha,rfl⟩)) hlen)
 generalize inl (t.kids.map (jU tx inl (d+1))) d=y at *;refine ai Tryz.func197 Tryz.ntmps197 ?_;refine GW.wk (Wk.Cj (t:=7) (a:=none) (c:=0) 9 1 rfl) ?_;refine GW.range (ca t.kids).length (fun k fr Γ=>∃ m rows,fr=[.U,.U,.v (ii (d:Nat)),.loc 0 0,.U,.U,.U,.vec 1 m,.U,.U,.U,.U,.U,.sl 1 (ca t.kids),.v (ii ((ca t.kids).length:Int)),.v (ii (k:Nat)),.U,.U,.U,.U,.U,.U,.U,.U,.U,.U,.U,.U,.U,.U,.U,.U,.U]/\Γ=[.box 192 [.v (iF ex),.v (iF bk)],.vec 9 1 0 rows]/\rows.length=m/\rows=((t.kids.take k).map (jU tx inl (d+1))).map (fun s=>[GV.v (sv s)])/\m=k) ?_ ag ?_ ?_ ?_
 ·exact ⟨_,_,Wk.aC aq,0,[],rfl,rfl,rfl,rfl,rfl⟩
 ·rintro k _ _ ⟨m,rows,rfl,rfl,_⟩;exact dS
 ·rintro k _ _ ak ⟨m,rows,rfl,rfl,hm,bt,tf⟩;rw [pn] at ak
  have cI:t.kids[k]?=some t.kids[k]:=by simp [ak]
  have hr:=vB cI;have ht:=hk t.kids[k] (getElem_mem ak)
  have bu:((t.kids.take (k+1)).map (jU tx inl (d+1))).map (fun s=>[GV.v (sv s)])=rows++[[.v (sv (jU tx inl (d+1) t.kids[k]))]]:=by rw [take_add_one,cI,bt,map_append,map_append];rfl
  generalize t.kids[k]=kid at *;generalize jU tx inl (d+1) kid=z at *;refine ae ?_;refine ab [] ht ?_;refine eP ?_;refine ae ?_;exact ⟨rfl,rfl,_,_,Wk.aC aq,_,_,rfl,rfl,by simp [hm],bu.symm,by omega⟩
 ·rintro _ _ ⟨m,rows,rfl,rfl,hm,bt,tf⟩;rw [pn,take_length] at bt;refine bb ?_;refine GW.wk (Wk.jw (t:=7) rfl rfl rfl hm) ?_;subst bt;refine ae ?_;refine iC [] dj ?_;exact av
theorem WS {t:T} {n:Nat} (h:cX t.n.kind t.kids.length=true) (hk:(n=1/\(t.n.kind=13\/t.n.kind=7\/t.n.kind=11\/t.n.kind=12))\/(n=2/\(t.n.kind=8\/t.n.kind=10))):t.kids.length=n:=by
 unfold cX at h
 rcases hk with ⟨rfl,hk⟩ | ⟨rfl,hk⟩
 ·rcases hk with hk | hk | hk | hk <;> rw [hk] at h <;> simp at h <;> omega
 ·rcases hk with hk | hk <;> rw [hk] at h <;> simp at h <;> omega
theorem Vg {t:T} (h:cX t.n.kind t.kids.length=true) (hk:t.n.kind=9):t.kids.length=2\/t.kids.length=3:=by
 unfold cX at h;rw [hk] at h;simp at h;omega
theorem HA (ex bk:FuncId) [he:aH Tryz.prog ex] [hb:aH Tryz.prog bk] (tx:T->ah) (inl:List ah->Nat->ah) (W:Wr ex bk tx inl):∀ (N:Nat) (t:T),aP t<=N->fP t=true->o0 t->jE t<=1099511627776->∀ d,d+aP t<=1099511627776->(jU tx inl d t).length<=1099511627776 ->
  GF Tryz.prog 231 [.agg [.v (iF ex),.v (iF bk)],uT t,.v (ii (d:Nat))] [] (.v (sv (jU tx inl d t))) []:=by
 intro N
 induction N with
 | zero=>intro t h;rw [Go.Xp.ef] at h;omega
 | succ N ih =>
 intro t hN hk hn hw d hd hlen;have fb:=W.expr t hk hn hw;rw [Go.Xp.ef] at hN hd;rw [Go.Im.xU,Bool.and_eq_true,Go.Im.tq,all_eq_true] at hk;rw [Go.Im.qS] at hn;have hwe:=Go.Im.oQ t
 have J3:∀ (l:List T) (a:T),a∈l->aP a<=az l:=by
  intro l
  induction l with
  | nil=>intro a h;cases h
  | cons b l ih2 =>
   intro a h;rw [az]
   rcases List.mem_cons.1 h with rfl | h
   ·omega
   ·have:=ih2 a h;omega
 have gZ:=fun (k:Nat) (a:T) (ng:t.kids[k]?=some a)=>W6 ex bk tx t a k ng (W.expr a (hk.2 a (mem_of_getElem? ng)) (Go.Im.jD hn.2 (mem_of_getElem? ng)) (by have:=Go.Im.tL (mem_of_getElem? ng);omega))
 have dj:∀ a∈t.kids,(na tx inl d a).length<=1099511627776->GF Tryz.prog 197 [.agg [.v (iF ex),.v (iF bk)],uT a,.v (ii (d:Nat))] [] (.v (sv (na tx inl d a))) []:=fun a ha UI=>by
  have h1:=J3 _ a ha;have h2:=Go.Im.tL ha;have h3:=hk.2 a ha;have h4:=Go.Im.jD hn.2 ha;rw [Go.Im.xU,Bool.and_eq_true,Go.Im.tq,all_eq_true] at h3;rw [Go.Im.qS] at h4;have h5:=Go.Xp.ef a;have h6:=Go.Xp.bL a.kids;have h7:=Go.Im.oQ a
  refine y5 ex bk tx inl W a d ag ag UI fun b eI hlb=>?_
  have h8:=J3 _ b eI;have h9:=Go.Im.tL eI;exact ih b ag (h3.2 b eI) (Go.Im.jD h4.2 eI) ag (d+1) ag hlb
 rw [N1] at hlen |-;unfold xf at hlen |-;rw [HL] at hlen |-;have rA:=@WS t;have Ze:=@Vg t hk.1
 have rA:=fun n=>@rA n hk.1
 unfold uT at fb |-;unfold uT at gZ;generalize iL:t.n.kind=kd at *
 by_cases eH:kd=13
 ·subst eH
  have f13:((13:Int)==13)=true:=by decide
  rw [if_pos rfl] at hlen |-;have eS:=rA 1 (.inl ⟨rfl,.inl rfl⟩)
  obtain ⟨a,ha⟩:∃ a,t.kids=[a]:=by
   match hl:t.kids,eS with
   | [a],_=>exact ⟨a,rfl⟩
  have h0:=gZ 0 a (by rw [ha];rfl);rw [ha] at hlen |-;rw [ha] at h0;simp only [List.map_cons,map_nil,getD_cons_zero,length_append,length_cons,length_nil] at hlen |-;generalize tx a=x at *;generalize ca [a]=rows at *;refine da Tryz.func231 Tryz.ntmps231 ?_;refine jg ?_;refine GL.wk (Wk.freeze (i:=0) rfl rfl rfl (Nat.zero_le _)) ?_;refine GL.wk (Wk.freeze (i:=1) rfl rfl rfl (Nat.zero_le _)) ?_;refine GN (by simp only [ot,ny];rfl) ?_;refine ae ?_;refine aI (aB 0 8 (.a 8 (aB 9 3 .nil))) ?_;refine ar ?_;refine nN [] h0 ?_;refine ar ?_;exact av
 rw [if_neg eH] at hlen |-
 have g13:(kd==13)=false:=by simpa using eH
 by_cases h7:kd=7
 ·subst h7
  have f13:((7:Int)==13)=false:=by decide
  have f7:((7:Int)==7)=true:=by decide
  rw [if_pos rfl] at hlen |-;have eS:=rA 1 (.inl ⟨rfl,.inr (.inl rfl)⟩)
  obtain ⟨a,ha⟩:∃ a,t.kids=[a]:=by
   match hl:t.kids,eS with
   | [a],_=>exact ⟨a,rfl⟩
  have h0:=gZ 0 a (by rw [ha];rfl);rw [ha] at hlen |-;rw [ha] at h0;simp only [List.map_cons,map_nil,getD_cons_zero,length_append,length_cons,length_nil] at hlen |-;generalize tx a=x at *;generalize ca [a]=rows at *;refine da Tryz.func231 Tryz.ntmps231 ?_;refine jg ?_;refine GL.wk (Wk.freeze (i:=0) rfl rfl rfl (Nat.zero_le _)) ?_;refine GL.wk (Wk.freeze (i:=1) rfl rfl rfl (Nat.zero_le _)) ?_;refine GN (by simp only [ot,ny];rfl) ?_;refine ae ?_;refine aI (aB 0 7 (.a 7 (aB 8 3 .nil))) ?_;refine ar ?_;refine nN [] h0 ?_;refine ar ?_;exact av
 rw [if_neg h7] at hlen |-
 have g7:(kd==7)=false:=by simpa using h7
 by_cases h8:kd=8
 ·subst h8
  have f13:((8:Int)==13)=false:=by decide
  have f7:((8:Int)==7)=false:=by decide
  have f8:((8:Int)==8)=true:=by decide
  rw [if_pos rfl] at hlen |-;have eS:=rA 2 (.inr ⟨rfl,.inl rfl⟩)
  obtain ⟨a,b,ha⟩:∃ a b,t.kids=[a,b]:=by
   match hl:t.kids,eS with
   | [a,b],_=>exact ⟨a,b,rfl⟩
  have h0:=gZ 0 a (by rw [ha];rfl);have h1:=gZ 1 b (by rw [ha];rfl);rw [ha] at hlen |-;rw [ha] at h0 h1;simp only [List.map_cons,map_nil,getD_cons_zero,getD_cons_succ,length_append,length_cons,length_nil] at hlen |-;generalize tx a=x at *;generalize tx b=y at *;generalize ca [a,b]=rows at *;refine da Tryz.func231 Tryz.ntmps231 ?_;refine jg ?_;refine GL.wk (Wk.freeze (i:=0) rfl rfl rfl (Nat.zero_le _)) ?_;refine GL.wk (Wk.freeze (i:=1) rfl rfl rfl (Nat.zero_le _)) ?_;refine GN (by simp only [ot,ny];rfl) ?_;refine ae ?_;refine aI (aB 0 7 (.q 10 (.a 7 (.q 8 (.q 9 (.a 11 (aB 12 3 .nil))))))) ?_;refine ar ?_;refine nN [] h0 ?_;refine ar ?_;refine nN [] h1 ?_;refine ar ?_;exact av
 rw [if_neg h8] at hlen |-
 have g8:(kd==8)=false:=by simpa using h8
 by_cases h9:kd=9
 ·subst h9
  have f13:((9:Int)==13)=false:=by decide
  have f7:((9:Int)==7)=false:=by decide
  have f8:((9:Int)==8)=false:=by decide
  have f9:((9:Int)==9)=true:=by decide
  rw [if_pos rfl] at hlen |-
  rcases Ze rfl with eS | eS
  ·skip
   obtain ⟨a,b,ha⟩:∃ a b,t.kids=[a,b]:=by
    match hl:t.kids,eS with
    | [a,b],_=>exact ⟨a,b,rfl⟩
   have h0:=gZ 0 a (by rw [ha];rfl)
   have fX:(ca [a,b])[1]?=some [uT b]:=by rw [ko];rfl
   have Fp:(ca [a,b]).length=2:=by rw [qW];rfl
   have vi:(((ca [a,b]).length:Int)==3)=false:=by rw [Fp];decide
   rw [ha] at hlen |-;rw [ha] at h0;rw [if_neg (by simp)] at hlen |-;simp only [List.map_cons,map_nil,getD_cons_zero,getD_cons_succ,length_append,length_cons,length_nil] at hlen |-;have ze:=dj b (by rw [ha];simp) ag;generalize tx a=x at *;generalize na tx inl d b=y at *;clear dj gZ ih;generalize ca [a,b]=rows at *;refine da Tryz.func231 Tryz.ntmps231 ?_;refine jg ?_;refine GL.wk (Wk.freeze (i:=0) rfl rfl rfl (Nat.zero_le _)) ?_;refine GL.wk (Wk.freeze (i:=1) rfl rfl rfl (Nat.zero_le _)) ?_;refine GN (by simp only [ot,ny];rfl) ?_;refine ae ?_;refine aI (.q 0 (aB 4 8 (.a 1 (.q 2 (.q 3 (.a 12 (.q 13 (.q 14 .nil)))))))) ?_;refine ar ?_;refine nN [] h0 ?_;refine ar ?_;refine aE [] ze ?_;exact av
  ·skip
   obtain ⟨a,b,c,ha⟩:∃ a b c,t.kids=[a,b,c]:=by
    match hl:t.kids,eS with
    | [a,b,c],_=>exact ⟨a,b,c,rfl⟩
   have h0:=gZ 0 a (by rw [ha];rfl)
   have fX:(ca [a,b,c])[1]?=some [uT b]:=by rw [ko];rfl
   have df:(ca [a,b,c])[2]?=some [uT c]:=by rw [ko];rfl
   have Fp:(ca [a,b,c]).length=3:=by rw [qW];rfl
   have vi:(((ca [a,b,c]).length:Int)==3)=true:=by rw [Fp];decide
   rw [ha] at hlen |-;rw [ha] at h0;rw [if_pos (by simp)] at hlen |-;simp only [List.map_cons,map_nil,getD_cons_zero,getD_cons_succ,length_append,length_cons,length_nil] at hlen |-;have ze:=dj b (by rw [ha];simp) ag;have eI:=dj c (by rw [ha];simp) ag;generalize tx a=x at *;generalize na tx inl d b=y at *;generalize na tx inl d c=z at *;clear dj gZ ih;generalize ca [a,b,c]=rows at *;refine da Tryz.func231 Tryz.ntmps231 ?_;refine jg ?_;refine GL.wk (Wk.freeze (i:=0) rfl rfl rfl (Nat.zero_le _)) ?_;refine GL.wk (Wk.freeze (i:=1) rfl rfl rfl (Nat.zero_le _)) ?_;refine GN (by simp only [ot,ny];rfl) ?_;refine ae ?_;refine aI (.q 0 (aB 4 8 (.a 1 (.q 2 (.q 3 (.a 12 (.q 13 (.q 14 .nil)))))))) ?_;refine ar ?_;refine nN [] h0 ?_;refine ar ?_;refine aE [] ze ?_;refine ae ?_;refine aI (aB 0 9 (.a 9 (aB 10 3 .nil))) ?_;refine ar ?_;refine aE [] eI ?_;exact av
 rw [if_neg h9] at hlen |-
 have g9:(kd==9)=false:=by simpa using h9
 by_cases kZ:kd=10
 ·subst kZ
  have f13:((10:Int)==13)=false:=by decide
  have f7:((10:Int)==7)=false:=by decide
  have f8:((10:Int)==8)=false:=by decide
  have f9:((10:Int)==9)=false:=by decide
  have f10:((10:Int)==10)=true:=by decide
  rw [if_pos rfl] at hlen |-;have eS:=rA 2 (.inr ⟨rfl,.inr rfl⟩)
  ·skip
   obtain ⟨a,b,ha⟩:∃ a b,t.kids=[a,b]:=by
    match hl:t.kids,eS with
    | [a,b],_=>exact ⟨a,b,rfl⟩
   have h0:=gZ 0 a (by rw [ha];rfl)
   have fX:(ca [a,b])[1]?=some [uT b]:=by rw [ko];rfl
   have Fp:(ca [a,b]).length=2:=by rw [qW];rfl
   have vi:(((ca [a,b]).length:Int)==3)=false:=by rw [Fp];decide
   rw [ha] at hlen |-;rw [ha] at h0;simp only [List.map_cons,map_nil,getD_cons_zero,getD_cons_succ,length_append,length_cons,length_nil] at hlen |-;have ze:=dj b (by rw [ha];simp) ag;generalize tx a=x at *;generalize na tx inl d b=y at *;clear dj gZ ih;generalize ca [a,b]=rows at *;refine da Tryz.func231 Tryz.ntmps231 ?_;refine jg ?_;refine GL.wk (Wk.freeze (i:=0) rfl rfl rfl (Nat.zero_le _)) ?_;refine GL.wk (Wk.freeze (i:=1) rfl rfl rfl (Nat.zero_le _)) ?_;refine GN (by simp only [ot,ny];rfl) ?_;refine ae ?_;refine aI (.q 0 (aB 4 8 (.a 1 (.q 2 (.q 3 (.a 12 (.q 13 (.q 14 .nil)))))))) ?_;refine ar ?_;refine nN [] h0 ?_;refine ar ?_;refine aE [] ze ?_;exact av
 rw [if_neg kZ] at hlen |-
 have g10:(kd==10)=false:=by simpa using kZ
 by_cases oC:kd=11
 ·subst oC
  have f13:((11:Int)==13)=false:=by decide
  have f7:((11:Int)==7)=false:=by decide
  have f8:((11:Int)==8)=false:=by decide
  have f9:((11:Int)==9)=false:=by decide
  have f10:((11:Int)==10)=false:=by decide
  have f11:((11:Int)==11)=true:=by decide
  rw [if_pos rfl] at hlen |-;have eS:=rA 1 (.inl ⟨rfl,.inr (.inr (.inl rfl))⟩)
  obtain ⟨a,ha⟩:∃ a,t.kids=[a]:=by
   match hl:t.kids,eS with
   | [a],_=>exact ⟨a,rfl⟩
  have h0:=gZ 0 a (by rw [ha];rfl);rw [ha] at hlen |-;rw [ha] at h0;simp only [List.map_cons,map_nil,getD_cons_zero,length_append,length_cons,length_nil] at hlen |-;generalize tx a=x at *;generalize ca [a]=rows at *;refine da Tryz.func231 Tryz.ntmps231 ?_;refine jg ?_;refine GL.wk (Wk.freeze (i:=0) rfl rfl rfl (Nat.zero_le _)) ?_;refine GL.wk (Wk.freeze (i:=1) rfl rfl rfl (Nat.zero_le _)) ?_;refine GN (by simp only [ot,ny];rfl) ?_;refine ae ?_;refine kY [] h0 ?_;exact av
 rw [if_neg oC] at hlen |-
 have g11:(kd==11)=false:=by simpa using oC
 by_cases n9:kd=12
 ·subst n9
  have f13:((12:Int)==13)=false:=by decide
  have f7:((12:Int)==7)=false:=by decide
  have f8:((12:Int)==8)=false:=by decide
  have f9:((12:Int)==9)=false:=by decide
  have f10:((12:Int)==10)=false:=by decide
  have f11:((12:Int)==11)=false:=by decide
  have f12:((12:Int)==12)=true:=by decide
  rw [if_pos rfl] at hlen |-;have eS:=rA 1 (.inl ⟨rfl,.inr (.inr (.inr rfl))⟩)
  obtain ⟨a,ha⟩:∃ a,t.kids=[a]:=by
   match hl:t.kids,eS with
   | [a],_=>exact ⟨a,rfl⟩
  have h0:=gZ 0 a (by rw [ha];rfl);rw [ha] at hlen |-;rw [ha] at h0;simp only [List.map_cons,map_nil,getD_cons_zero,length_append,length_cons,length_nil] at hlen |-;generalize tx a=x at *;generalize ca [a]=rows at *;refine da Tryz.func231 Tryz.ntmps231 ?_;refine jg ?_;refine GL.wk (Wk.freeze (i:=0) rfl rfl rfl (Nat.zero_le _)) ?_;refine GL.wk (Wk.freeze (i:=1) rfl rfl rfl (Nat.zero_le _)) ?_;refine GN (by simp only [ot,ny];rfl) ?_;refine ae ?_;refine kY [] h0 ?_;exact av
 rw [if_neg n9] at hlen |-
 have g12:(kd==12)=false:=by simpa using n9
 clear dj gZ ih;generalize tx t=x at *;refine da Tryz.func231 Tryz.ntmps231 ?_;refine jg ?_;refine GL.wk (Wk.freeze (i:=0) rfl rfl rfl (Nat.zero_le _)) ?_;refine GL.wk (Wk.freeze (i:=1) rfl rfl rfl (Nat.zero_le _)) ?_;refine GN (by simp only [ot,ny];rfl) ?_;refine ae ?_;refine iC [] fb ?_;exact av
end Go.Xg
namespace Go.Xg
open Go.RowKit Go.Xw Go.Proofs
open Go.Xp (Tok Nd T Ar levels cB bC aP az)
open Go.Sp (Src)
open Go.Im
attribute [local irreducible] GW GL GO YG GC GA aU aZ
theorem PJ (ex bk:FuncId) [he:aH Tryz.prog ex] [hb:aH Tryz.prog bk] (tx:T->ah) (inl:List ah->Nat->ah) (W:Wr ex bk tx inl) (p:Src) (trees:List T) (hlen:(mV tx inl p trees).length<=1099511627776) (hft:p.fns.length=trees.length)
  (hg:p.globals.length<=1099511627776) (ha:p.arrays.length<=1099511627776) (hf:p.fns.length<=1099511627776) (jo:∀ a∈p.arrays,-9223372036854775808<=a.size/\a.size<=9223372036854775807) (Dc:∀ f∈p.fns,f.params.length<=1099511627776)
  (ht:∀ t∈trees,fP t=true/\o0 t/\jE t<=1099511627776/\aP t+1<=1099511627776) :
  GF Tryz.prog 159 [.agg (ax p),.sl 1 (ca trees),.v (iF ex),.v (iF bk)] [] (.v (sv (mV tx inl p trees))) []:=by
 have XS:(p.globals.map fun s=>[GV.v (sv s)]).length=p.globals.length:=by simp
 have ky:(p.arrays.map aD).length=p.arrays.length:=by simp
 have XR:(p.fns.map aw).length=p.fns.length:=by simp
 have l2:=BQ (f1 tx inl) (p.fns.zip trees) (di a1 (di g1 [] p.globals) p.arrays);have l1:=BQ a1 p.arrays (di g1 [] p.globals);unfold mV at hlen |-;refine ai Tryz.func159 Tryz.ntmps159 ?_;refine GW.wk (Wk.Cj (t:=9) (a:=none) (c:=0) 5 1 rfl) ?_;refine GW.range (p.globals.map fun s=>[GV.v (sv s)]).length (fun k fr Γ=>∃ acc m rows,fr=[.U,.sl 1 (ca trees),.v (iF ex),.v (iF bk),.loc 0 0,.U,.U,.U,.U,.vec 1 m,.U,.U,.U,.U,.U,.U,.U,.U,strs p.globals,.v (ii ((p.globals.map fun s=>[GV.v (sv s)]).length:Int)),.v (ii (k:Nat)),.U,.U,.U,.U,.U,.U,.U,.U,.U,.U,.U,.U,.U,.U,.U,.U,.U,.U,.U,.U,.U,.U,.U,.U,.U,.U,.U,.U,.U,.U,.U,.U,.U,.U,.U,.U,.U,.U,.U,.U,.U,.U,.U,.U,.U,.U,.U,.U,.U,.U,.U,.U,.U,.U,.U,.U,.U,.U,.U,.U,.U]/\Γ=[.box 34 (ax p),.vec 5 1 0 rows]/\rows.length=m/\rows=cq acc/\acc=di g1 [] (p.globals.take k)) ?_ ag ?_ ?_ ?_
 ·exact ⟨_,_,Wk.aC aq,[],0,[],rfl,rfl,rfl,rfl,rfl⟩
 ·rintro k _ _ ⟨acc,m,rows,rfl,rfl,_⟩;exact dS
 ·rintro k _ _ ak ⟨acc,m,rows,rfl,rfl,hm,bt,kU⟩;rw [XS] at ak
  have cI:p.globals[k]?=some p.globals[k]:=by simp [ak]
  have td:(p.globals.map fun s=>[GV.v (sv s)])[k]?=some [.v (sv p.globals[k])]:=by rw [getElem?_map,cI];rfl
  have bu:di g1 [] (p.globals.take (k+1))=acc++g1 p.globals[k]:=by rw [take_add_one,cI,kU];exact xk g1 _ _ _
  have hle:=xl g1 p.globals (k+1) [];rw [bu,length_append] at hle
  have XT:rows.length=acc.length:=by rw [bt];simp [cq]
  generalize p.globals[k]=z at *
  have hz:(g1 z).length=z.length+6:=by unfold g1;simp
  refine ae ?_;refine GL.BJ (str:=g1 z) rfl rfl rfl aY rfl ag ?_;refine bI ?_;refine ae ?_;exact ⟨rfl,rfl,_,_,Wk.aC aq,acc++g1 z,_,_,rfl,rfl,by rw [length_append,hm];simp [cq],by rw [bt];exact (tS acc (g1 z)).symm,bu.symm⟩
 ·rintro _ _ ⟨acc,m,rows,rfl,rfl,hm,bt,kU⟩;rw [XS,take_length] at kU;rw [<-kU] at hlen l1 l2 |-;refine bb ?_;refine ae ?_;refine GW.range (p.arrays.map aD).length (fun k fr Γ=>∃ qB m rows,fr=[.U,.sl 1 (ca trees),.v (iF ex),.v (iF bk),.loc 0 0,.U,.U,.U,.U,.vec 1 m,.U,.U,.U,.U,.U,.U,.U,.U,.U,.U,.U,.U,.U,.U,.U,.U,.U,.U,.U,.U,.U,.sl 2 (p.arrays.map aD),.v (ii ((p.arrays.map aD).length:Int)),.v (ii (k:Nat)),.U,.U,.U,.U,.U,.U,.U,.U,.U,.U,.U,.U,.U,.U,.U,.U,.U,.U,.U,.U,.U,.U,.U,.U,.U,.U,.U,.U,.U,.U,.U,.U,.U,.U,.U,.U,.U,.U,.U,.U,.U,.U,.U,.U,.U,.U,.U,.U]/\Γ=[.box 34 (ax p),.vec 5 1 0 rows]/\rows.length=m/\rows=cq qB/\qB=di a1 acc (p.arrays.take k)) ?_ ag ?_ ?_ ?_
  ·exact ⟨_,_,Wk.aC aq,acc,m,rows,rfl,rfl,hm,bt,rfl⟩
  ·rintro k _ _ ⟨qB,m,rows,rfl,rfl,_⟩;exact dS
  ·clear hm bt;rintro k _ _ ak ⟨qB,m,rows,rfl,rfl,hm,bt,D1⟩;rw [ky] at ak
   have cI:p.arrays[k]?=some p.arrays[k]:=by simp [ak]
   have td:(p.arrays.map aD)[k]?=some (aD p.arrays[k]):=by rw [getElem?_map,cI];rfl
   have bu:di a1 acc (p.arrays.take (k+1))=qB++a1 p.arrays[k]:=by rw [take_add_one,cI,D1];exact xk a1 _ _ _
   have hle:=xl a1 p.arrays (k+1) acc;rw [bu,length_append] at hle
   have XT:rows.length=qB.length:=by rw [bt];simp [cq]
   have xQ:=jo p.arrays[k] (getElem_mem ak);generalize p.arrays[k]=z at *;have hit:=Lr z.size xQ.1 xQ.2;have sc:=xT xQ
   have hz:(a1 z).length=z.name.length+(nW z.size).length+8:=by unfold a1;simp;omega
   unfold aD at td;refine ae ?_;refine aI (aB 0 7 (.a 7 (.q 8 (.q 9 (.a 10 (.q 11 .nil)))))) ?_;refine ar ?_;refine aE [] hit ?_;refine OA rfl rfl (GL.BJ (str:=a1 z) rfl rfl rfl aY rfl ag (GL.nil (bb (ep.mk (by repeat (first | exact gC.n | (apply gC.w;(· decide +kernel)) | (apply gC.y;(· first | (apply YQ.t;(· exact rfl);(· exact rfl);(· (first | exact rR | (apply K.idx;first | exact YG.idxV rfl rfl rfl aY ag | exact YG.ct 0 rfl rfl rfl bQ | exact YG.ct 1 rfl rfl rfl bQ | exact YG.ct 2 rfl rfl rfl bQ | exact YG.ct 3 rfl rfl rfl bQ | exact YG.ct 4 rfl rfl rfl bQ | exact YG.ct 5 rfl rfl rfl bQ | exact YG.ct 6 rfl rfl rfl bQ) | exact rS | exact YG.rO 1 rfl rfl aY aY | exact YG.mv | exact YG.tQ | (apply K.bin;first | exact YG.go rfl | exact YG.uz rfl rfl ag | exact YG.vX rfl rfl | exact YG.wB rfl rfl | exact YG.AH rfl rfl | exact YG.Bh rfl rfl | exact YG.cat rfl rfl ag | exact YG.cat rfl rfl (by simp only [length_append,length_cons,length_nil];omega) | exact YG.dK rfl rfl ag | exact YG.add rfl rfl ag | exact YG.sub rfl rfl ag | exact YG.mul rfl rfl ag | exact YG.Aq rfl rfl ag | exact YG.quo rfl rfl ag | exact YG.rem rfl rfl ag | exact YG.sq rfl rfl) | exact qj | exact qi | exact qk | exact nO | exact oO | (apply K.idx;first | exact YG.so rfl rfl bJ | exact YG.jr rfl rfl bJ rfl | exact YG.jr rfl rfl bJ ag | exact YG.uG rfl rfl ag) | exact YG.ext rfl rfl | exact YG.go rfl | (apply K.Gg;first | exact YG.Ap rfl rfl rfl ag | exact YG.Ao rfl rfl ag | exact YG.An rfl rfl ag | exact YG.tG 1 rfl rfl rfl aY) | exact YG.qL rfl rfl bJ | exact YG.idxSC rfl rfl bJ rfl | exact oP | exact YG.build rfl | exact YG.neg rfl ag | exact YG.qG rfl rfl | exact YG.xn rfl (by first | rfl | exact IntWalk.i64_in _ ag | exact IntWalk.u8_in _ ag | assumption) | exact YG.str rfl aY))) | (apply YQ.t;(· exact rfl);(· apply zP;(· exact rfl);(· first | exact rfl | assumption));(· (first | exact rR | (apply K.idx;first | exact YG.idxV rfl rfl rfl aY ag | exact YG.ct 0 rfl rfl rfl bQ | exact YG.ct 1 rfl rfl rfl bQ | exact YG.ct 2 rfl rfl rfl bQ | exact YG.ct 3 rfl rfl rfl bQ | exact YG.ct 4 rfl rfl rfl bQ | exact YG.ct 5 rfl rfl rfl bQ | exact YG.ct 6 rfl rfl rfl bQ) | exact rS | exact YG.rO 1 rfl rfl aY aY | exact YG.mv | exact YG.tQ | (apply K.bin;first | exact YG.go rfl | exact YG.uz rfl rfl ag | exact YG.vX rfl rfl | exact YG.wB rfl rfl | exact YG.AH rfl rfl | exact YG.Bh rfl rfl | exact YG.cat rfl rfl ag | exact YG.cat rfl rfl (by simp only [length_append,length_cons,length_nil];omega) | exact YG.dK rfl rfl ag | exact YG.add rfl rfl ag | exact YG.sub rfl rfl ag | exact YG.mul rfl rfl ag | exact YG.Aq rfl rfl ag | exact YG.quo rfl rfl ag | exact YG.rem rfl rfl ag | exact YG.sq rfl rfl) | exact qj | exact qi | exact qk | exact nO | exact oO | (apply K.idx;first | exact YG.so rfl rfl bJ | exact YG.jr rfl rfl bJ rfl | exact YG.jr rfl rfl bJ ag | exact YG.uG rfl rfl ag) | exact YG.ext rfl rfl | exact YG.go rfl | (apply K.Gg;first | exact YG.Ap rfl rfl rfl ag | exact YG.Ao rfl rfl ag | exact YG.An rfl rfl ag | exact YG.tG 1 rfl rfl rfl aY) | exact YG.qL rfl rfl bJ | exact YG.idxSC rfl rfl bJ rfl | exact oP | exact YG.build rfl | exact YG.neg rfl ag | exact YG.qG rfl rfl | exact YG.xn rfl (by first | rfl | exact IntWalk.i64_in _ ag | exact IntWalk.u8_in _ ag | assumption) | exact YG.str rfl aY))) | (apply YQ.f;(· exact rfl);(· apply B0;(· exact rfl);(· first | exact rfl | assumption))))))) ?_))))
   refine Oj ?_;refine bf ?_;exact ⟨rfl,rfl,_,_,(Wk.cut (n:=2) (Nat.zero_le _) rfl).trans (Wk.aC aq),qB++a1 z,_,_,rfl,rfl,by rw [length_append,hm];simp [cq],by rw [bt];exact (tS qB (a1 z)).symm,bu.symm⟩
  ·clear hm bt;rintro _ _ ⟨qB,m,rows,rfl,rfl,hm,bt,D1⟩;rw [ky,take_length] at D1;rw [<-D1] at hlen l2 |-
   have xN:∀ (k:Nat) (f:Go.Sp.Fn),p.fns[k]?=some f->f.params.length<=1099511627776:=fun k f h=>Dc f (mem_of_getElem? h)
   refine bb ?_;refine ae ?_;refine GW.range (p.fns.map aw).length (fun k fr Γ=>∃ uy m rows,fr=[.U,.sl 1 (ca trees),.U,.U,.U,.U,.U,.U,.U,.vec 1 m,.U,.U,.U,.U,.loc 2 0,.U,.U,.U,.U,.U,.U,.U,.U,.U,.U,.U,.U,.U,.U,.U,.U,.U,.U,.U,.U,.U,.U,.U,.U,.U,.U,.U,.U,.U,.U,.U,.U,.U,.U,.U,.U,.U,.U,.sl 3 (p.fns.map aw),.v (ii ((p.fns.map aw).length:Int)),.v (ii (k:Nat)),.U,.U,.U,.U,.U,.U,.U,.U,.U,.U,.U,.U,.U,.U,.U,.U,.U,.U,.U,.U,.U,.U,.U,.U,.U,.U]/\Γ=[.box 34 (ax p),.vec 5 1 0 rows,.box 192 [.v (iF ex),.v (iF bk)]]/\rows.length=m/\rows=cq uy/\uy=di (f1 tx inl) qB ((p.fns.zip trees).take k)) ?_ ag ?_ ?_ ?_
   ·exact ⟨_,_,Wk.aC aq,qB,m,rows,rfl,rfl,hm,bt,rfl⟩
   ·rintro k _ _ ⟨uy,m,rows,rfl,rfl,_⟩;exact dS
   ·clear hm bt;rintro k _ _ ak ⟨uy,m,rows,rfl,rfl,hm,bt,D2⟩;rw [XR] at ak
    have mT:k < trees.length:=by omega
    have cI:p.fns[k]?=some p.fns[k]:=by simp [ak]
    have w7:trees[k]?=some trees[k]:=by simp [mT]
    have td:(p.fns.map aw)[k]?=some (aw p.fns[k]):=by rw [getElem?_map,cI];rfl
    have aam:=vB w7
    have hkz:(p.fns.zip trees)[k]?=some (p.fns[k],trees[k]):=by rw [List.getElem?_zip_eq_some];exact ⟨cI,w7⟩
    have bu:di (f1 tx inl) qB ((p.fns.zip trees).take (k+1))=uy++f1 tx inl (p.fns[k],trees[k]):=by rw [take_add_one,hkz,D2];exact xk (f1 tx inl) _ _ _
    have hle:=xl (f1 tx inl) (p.fns.zip trees) (k+1) qB;rw [bu,length_append] at hle
    have XT:rows.length=uy.length:=by rw [bt];simp [cq]
    obtain ⟨q1,q2,q3,q4⟩:=ht trees[k] (getElem_mem mT);have hpk:=xN k _ cI;generalize p.fns[k]=f at *;generalize trees[k]=t at *
    have hz:(f1 tx inl (f,t)).length=f.name.length+(bC f.params).length+(na tx inl 0 t).length+9:=by unfold f1;simp;omega
    have hJ:=Ls f.params ag hpk
    have J3:∀ (l:List T) (a:T),a∈l->aP a<=az l:=by
     intro l
     induction l with
     | nil=>intro a h;cases h
     | cons b l ih2 =>
      intro a h;rw [az]
      rcases List.mem_cons.1 h with rfl | h
      ·omega
      ·have:=ih2 a h;omega
    have hB:=y5 ex bk tx inl W t 0 ag (by have:=Go.Xp.bL t.kids;have:=Go.Xp.ef t;omega) ag fun a MJ UI=>by
     have h1:=J3 _ a MJ;have h2:=Go.Xp.ef t;have h3:=tL MJ;have h4:=oQ t;rw [xU,Bool.and_eq_true,tq,all_eq_true] at q1;rw [qS] at q2;exact HA ex bk tx inl W _ a (Nat.le_refl _) (q1.2 a MJ) (jD q2.2 MJ) ag (0+1) ag UI
    unfold aw at td;refine ae ?_;refine aI (aB 0 7 (aB 10 5 (.a 7 (.q 8 (.q 9 (.a 15 (.q 16 (.q 17 (.a 18 (.q 19 .nil)))))))))) ?_;refine ar ?_;refine aE [] hJ ?_;refine aE [] hB ?_;refine OA rfl rfl (GL.BJ (str:=f1 tx inl (f,t)) rfl rfl rfl aY rfl ag (GL.nil (bb (ep.mk (by repeat (first | exact gC.n | (apply gC.w;(· decide +kernel)) | (apply gC.y;(· first | (apply YQ.t;(· exact rfl);(· exact rfl);(· (first | exact rR | (apply K.idx;first | exact YG.idxV rfl rfl rfl aY ag | exact YG.ct 0 rfl rfl rfl bQ | exact YG.ct 1 rfl rfl rfl bQ | exact YG.ct 2 rfl rfl rfl bQ | exact YG.ct 3 rfl rfl rfl bQ | exact YG.ct 4 rfl rfl rfl bQ | exact YG.ct 5 rfl rfl rfl bQ | exact YG.ct 6 rfl rfl rfl bQ) | exact rS | exact YG.rO 1 rfl rfl aY aY | exact YG.mv | exact YG.tQ | (apply K.bin;first | exact YG.go rfl | exact YG.uz rfl rfl ag | exact YG.vX rfl rfl | exact YG.wB rfl rfl | exact YG.AH rfl rfl | exact YG.Bh rfl rfl | exact YG.cat rfl rfl ag | exact YG.cat rfl rfl (by simp only [length_append,length_cons,length_nil];omega) | exact YG.dK rfl rfl ag | exact YG.add rfl rfl ag | exact YG.sub rfl rfl ag | exact YG.mul rfl rfl ag | exact YG.Aq rfl rfl ag | exact YG.quo rfl rfl ag | exact YG.rem rfl rfl ag | exact YG.sq rfl rfl) | exact qj | exact qi | exact qk | exact nO | exact oO | (apply K.idx;first | exact YG.so rfl rfl bJ | exact YG.jr rfl rfl bJ rfl | exact YG.jr rfl rfl bJ ag | exact YG.uG rfl rfl ag) | exact YG.ext rfl rfl | exact YG.go rfl | (apply K.Gg;first | exact YG.Ap rfl rfl rfl ag | exact YG.Ao rfl rfl ag | exact YG.An rfl rfl ag | exact YG.tG 1 rfl rfl rfl aY) | exact YG.qL rfl rfl bJ | exact YG.idxSC rfl rfl bJ rfl | exact oP | exact YG.build rfl | exact YG.neg rfl ag | exact YG.qG rfl rfl | exact YG.xn rfl (by first | rfl | exact IntWalk.i64_in _ ag | exact IntWalk.u8_in _ ag | assumption) | exact YG.str rfl aY))) | (apply YQ.t;(· exact rfl);(· apply zP;(· exact rfl);(· first | exact rfl | assumption));(· (first | exact rR | (apply K.idx;first | exact YG.idxV rfl rfl rfl aY ag | exact YG.ct 0 rfl rfl rfl bQ | exact YG.ct 1 rfl rfl rfl bQ | exact YG.ct 2 rfl rfl rfl bQ | exact YG.ct 3 rfl rfl rfl bQ | exact YG.ct 4 rfl rfl rfl bQ | exact YG.ct 5 rfl rfl rfl bQ | exact YG.ct 6 rfl rfl rfl bQ) | exact rS | exact YG.rO 1 rfl rfl aY aY | exact YG.mv | exact YG.tQ | (apply K.bin;first | exact YG.go rfl | exact YG.uz rfl rfl ag | exact YG.vX rfl rfl | exact YG.wB rfl rfl | exact YG.AH rfl rfl | exact YG.Bh rfl rfl | exact YG.cat rfl rfl ag | exact YG.cat rfl rfl (by simp only [length_append,length_cons,length_nil];omega) | exact YG.dK rfl rfl ag | exact YG.add rfl rfl ag | exact YG.sub rfl rfl ag | exact YG.mul rfl rfl ag | exact YG.Aq rfl rfl ag | exact YG.quo rfl rfl ag | exact YG.rem rfl rfl ag | exact YG.sq rfl rfl) | exact qj | exact qi | exact qk | exact nO | exact oO | (apply K.idx;first | exact YG.so rfl rfl bJ | exact YG.jr rfl rfl bJ rfl | exact YG.jr rfl rfl bJ ag | exact YG.uG rfl rfl ag) | exact YG.ext rfl rfl | exact YG.go rfl | (apply K.Gg;first | exact YG.Ap rfl rfl rfl ag | exact YG.Ao rfl rfl ag | exact YG.An rfl rfl ag | exact YG.tG 1 rfl rfl rfl aY) | exact YG.qL rfl rfl bJ | exact YG.idxSC rfl rfl bJ rfl | exact oP | exact YG.build rfl | exact YG.neg rfl ag | exact YG.qG rfl rfl | exact YG.xn rfl (by first | rfl | exact IntWalk.i64_in _ ag | exact IntWalk.u8_in _ ag | assumption) | exact YG.str rfl aY))) | (apply YQ.f;(· exact rfl);(· apply B0;(· exact rfl);(· first | exact rfl | assumption))))))) ?_))))
    refine Oj ?_;refine bf ?_;exact ⟨rfl,rfl,_,_,(Wk.cut (n:=3) (Nat.zero_le _) rfl).trans (Wk.aC aq),uy++f1 tx inl (f,t),_,_,rfl,rfl,by rw [length_append,hm];simp [cq],by rw [bt];exact (tS uy _).symm,bu.symm⟩
   ·clear hm bt;rintro _ _ ⟨uy,m,rows,rfl,rfl,hm,bt,D2⟩;rw [XR,show (p.fns.zip trees).take p.fns.length=p.fns.zip trees from take_of_length_le (by simp;omega)] at D2;rw [<-D2] at hlen |-;refine bb ?_;refine GW.wk (Wk.jw (t:=9) rfl rfl rfl hm) ?_
    have aab:rows=uy.map fun c=>[.v (.int .u8 (c.toNat:Int))]:=bt
    exact av
end Go.Xg
namespace Go.Xg
open Go.RowKit Go.Xw Go.Proofs
open Go.Im (ff ry rz sU lN nu)
attribute [local irreducible] GW GL GO YG GC GA aU aZ
theorem HD (a b:List ah) (ha:a.length<=1099511627776) (hb:b.length<=1099511627776):GF Tryz.prog 164 [strs a,strs b] [] (.v (.bool (ff (fun x y=>x==y) a b))) []:=by
 have ky:(a.map fun s=>[GV.v (sv s)]).length=a.length:=by simp
 have qu:(b.map fun s=>[GV.v (sv s)]).length=b.length:=by simp
 by_cases hl:a.length=b.length
 ·have hd:(((a.map fun s=>[GV.v (sv s)]).length:Int) != ((b.map fun s=>[GV.v (sv s)]).length:Int))=false:=by rw [ky,qu,hl];simp
  refine ai Tryz.func164 Tryz.ntmps164 ?_;refine GW.range (a.map fun s=>[GV.v (sv s)]).length (fun k fr Γ=>fr=[strs a,strs b,.U,.U,.U,.U,.U,.U,.U,.U,.U,.U,.v (ii ((a.map fun s=>[GV.v (sv s)]).length:Int)),.v (ii (k:Nat)),.U,.U,.U,.U,.U,.U,.U,.U,.U,.U,.U,.U]/\Γ=[]/\sU (fun x y=>x==y) a b k) ?_ ag ?_ ?_ ?_
  ·exact ⟨_,_,Wk.aC aq,rfl,rfl,fun j x y h=>by omega⟩
  ·exact gx
  ·rintro k _ _ ak ⟨rfl,rfl,kB⟩;rw [ky] at ak
   have ng:a[k]?=some a[k]:=by simp [ak]
   have pR:k < b.length:=by omega
   have oF:b[k]?=some b[k]:=by simp [pR]
   have Fm:(a.map fun s=>[GV.v (sv s)])[k]?=some [GV.v (sv a[k])]:=by rw [getElem?_map,ng];rfl
   have Fo:(b.map fun s=>[GV.v (sv s)])[k]?=some [GV.v (sv b[k])]:=by rw [getElem?_map,oF];rfl
   generalize a[k]=x at *;generalize b[k]=y at *
   cases iU:(x==y) with
   | true =>
    have hn:(x != y)=false:=by simp only [bne,iU];rfl
    have bO:(!(x==y))=false:=by rw [iU];rfl
    refine ae ?_;refine aI (aB 0 9 .nil) ?_;refine bf ?_;exact ⟨rfl,rfl,_,_,Wk.aC aq,rfl,rfl,lN ng oF kB iU⟩
   | false =>
    have hn:(x != y)=true:=by simp only [bne,iU];rfl
    have bO:(!(x==y))=true:=by rw [iU];rfl
    rw [rz ng oF (p:=fun x y=>x==y) iU];refine ae ?_;refine aI (aB 0 9 .nil) ?_;refine ar ?_;exact av
  ·rintro _ _ ⟨rfl,rfl,kB⟩;rw [ky] at kB;rw [nu hl kB];exact av
 ·have hd:(((a.map fun s=>[GV.v (sv s)]).length:Int) != ((b.map fun s=>[GV.v (sv s)]).length:Int))=true:=by rw [ky,qu];simpa using by omega
  rw [ry hl];refine ai Tryz.func164 Tryz.ntmps164 ?_;exact al
theorem RZ (a b:List Int) (ha:a.length<=1099511627776) (hb:b.length<=1099511627776):GF Tryz.prog 208 [ints a,ints b] [] (.v (.bool (ff (fun x y=>x==y) a b))) []:=by
 have ky:(a.map fun s=>[GV.v (ii s)]).length=a.length:=by simp
 have qu:(b.map fun s=>[GV.v (ii s)]).length=b.length:=by simp
 by_cases hl:a.length=b.length
 ·have hd:(((a.map fun s=>[GV.v (ii s)]).length:Int) != ((b.map fun s=>[GV.v (ii s)]).length:Int))=false:=by rw [ky,qu,hl];simp
  refine ai Tryz.func208 Tryz.ntmps208 ?_;refine GW.range (a.map fun s=>[GV.v (ii s)]).length (fun k fr Γ=>fr=[ints a,ints b,.U,.U,.U,.U,.U,.U,.U,.U,.U,.U,.v (ii ((a.map fun s=>[GV.v (ii s)]).length:Int)),.v (ii (k:Nat)),.U,.U,.U,.U,.U,.U,.U,.U,.U,.U,.U,.U]/\Γ=[]/\sU (fun x y=>x==y) a b k) ?_ ag ?_ ?_ ?_
  ·exact ⟨_,_,Wk.aC aq,rfl,rfl,fun j x y h=>by omega⟩
  ·exact gx
  ·rintro k _ _ ak ⟨rfl,rfl,kB⟩;rw [ky] at ak
   have ng:a[k]?=some a[k]:=by simp [ak]
   have pR:k < b.length:=by omega
   have oF:b[k]?=some b[k]:=by simp [pR]
   have Fm:(a.map fun s=>[GV.v (ii s)])[k]?=some [GV.v (ii a[k])]:=by rw [getElem?_map,ng];rfl
   have Fo:(b.map fun s=>[GV.v (ii s)])[k]?=some [GV.v (ii b[k])]:=by rw [getElem?_map,oF];rfl
   generalize a[k]=x at *;generalize b[k]=y at *
   cases iU:(x==y) with
   | true =>
    have hn:(x != y)=false:=by simp only [bne,iU];rfl
    have bO:(!(x==y))=false:=by rw [iU];rfl
    refine ae ?_;refine aI (aB 0 9 .nil) ?_;refine bf ?_;exact ⟨rfl,rfl,_,_,Wk.aC aq,rfl,rfl,lN ng oF kB iU⟩
   | false =>
    have hn:(x != y)=true:=by simp only [bne,iU];rfl
    have bO:(!(x==y))=true:=by rw [iU];rfl
    rw [rz ng oF (p:=fun x y=>x==y) iU];refine ae ?_;refine aI (aB 0 9 .nil) ?_;refine ar ?_;exact av
  ·rintro _ _ ⟨rfl,rfl,kB⟩;rw [ky] at kB;rw [nu hl kB];exact av
 ·have hd:(((a.map fun s=>[GV.v (ii s)]).length:Int) != ((b.map fun s=>[GV.v (ii s)]).length:Int))=true:=by rw [ky,qu];simpa using by omega
  rw [ry hl];refine ai Tryz.func208 Tryz.ntmps208 ?_;exact al
end Go.Xg
namespace Go.Xg
open Go.RowKit Go.Xw Go.Proofs
open Go.Xp (Nd)
open Go.Im (rl kE ff ry rz sU lN nu)
attribute [local irreducible] GW GL GO YG GC GA aU aZ
theorem Qd (a b:Go.Sp.Fn) (ha:a.params.length<=1099511627776) (hb:b.params.length<=1099511627776):GF Tryz.prog 167 [.agg (aw a),.agg (aw b)] [] (.v (.bool (rl a b))) []:=by
 have he:=HD a.params b.params ha hb;unfold rl aw
 cases h1:(a.name==b.name) with
 | false =>
  refine ai Tryz.func167 Tryz.ntmps167 ?_;exact al
 | true =>
  cases h2:ff (fun x y=>x==y) a.params b.params with
  | false =>
   rw [h2] at he;refine ai Tryz.func167 Tryz.ntmps167 ?_;refine ab [] he ?_;exact al
  | true =>
   rw [h2] at he;refine ai Tryz.func167 Tryz.ntmps167 ?_;refine ab [] he ?_;exact al
theorem KO (a b:Nd) (ha:a.kids.length<=1099511627776) (hb:b.kids.length<=1099511627776):GF Tryz.prog 169 [.agg (ay a),.agg (ay b)] [] (.v (.bool (kE a b))) []:=by
 have he:=RZ a.kids b.kids ha hb;unfold kE ay;generalize ff (fun x y=>x==y) a.kids b.kids=q at *
 cases h1:(a.kind==b.kind) with
 | false =>
  refine ai Tryz.func169 Tryz.ntmps169 ?_;exact al
 | true =>
  cases h2:(a.n==b.n) with
  | false =>
   refine ai Tryz.func169 Tryz.ntmps169 ?_;exact al
  | true =>
   cases h3:(a.s==b.s) with
   | false =>
    refine ai Tryz.func169 Tryz.ntmps169 ?_;exact al
   | true =>
    refine ai Tryz.func169 Tryz.ntmps169 ?_;refine ab [] he ?_;exact al
theorem GR (a b:List Go.Sp.Fn) (ha:a.length<=1099511627776) (hb:b.length<=1099511627776) (ka:∀ x∈a,x.params.length<=1099511627776) (kb:∀ x∈b,x.params.length<=1099511627776) :
  GF Tryz.prog 166 [.sl 3 (a.map aw),.sl 3 (b.map aw),.v (.func (.func 167) #[] #[])] [] (.v (.bool (ff rl a b))) []:=by
 have ky:(a.map aw).length=a.length:=by simp
 have qu:(b.map aw).length=b.length:=by simp
 by_cases hl:a.length=b.length
 ·have hd:(((a.map aw).length:Int) != ((b.map aw).length:Int))=false:=by rw [ky,qu,hl];simp
  refine ai Tryz.func166 Tryz.ntmps166 ?_;refine GW.range (a.map aw).length (fun k fr Γ=>fr=[.U,.sl 3 (b.map aw),.v (.func (.func 167) #[] #[]),.U,.U,.U,.U,.U,.U,.U,.U,.U,.U,.U,.U,.sl 3 (a.map aw),.v (ii ((a.map aw).length:Int)),.v (ii (k:Nat)),.U,.U,.U,.U,.U,.U,.U,.U,.U,.U,.U,.U,.U,.U]/\Γ=[]/\sU rl a b k) ?_ ag ?_ ?_ ?_
  ·exact ⟨_,_,Wk.aC aq,rfl,rfl,fun j x y h=>by omega⟩
  ·exact gx
  ·rintro k _ _ ak ⟨rfl,rfl,kB⟩;rw [ky] at ak
   have ng:a[k]?=some a[k]:=by simp [ak]
   have pR:k < b.length:=by omega
   have oF:b[k]?=some b[k]:=by simp [pR]
   have Fm:(a.map aw)[k]?=some (aw a[k]):=by rw [getElem?_map,ng];rfl
   have Fo:(b.map aw)[k]?=some (aw b[k]):=by rw [getElem?_map,oF];rfl
   have hs:=Qd a[k] b[k] (ka _ (getElem_mem ak)) (kb _ (getElem_mem pR));generalize a[k]=x at *;generalize b[k]=y at *;unfold aw at Fm Fo hs
   cases iU:rl x y with
   | true =>
    rw [iU] at hs;refine ae ?_;refine iC [] hs ?_;refine ae ?_;exact ⟨rfl,rfl,_,_,(Wk.cut (n:=0) (Nat.le_refl _) rfl).trans (Wk.aC aq),rfl,rfl,lN ng oF kB iU⟩
   | false =>
    rw [iU] at hs;rw [rz ng oF (p:=rl) iU];refine ae ?_;refine iC [] hs ?_;exact av
  ·rintro _ _ ⟨rfl,rfl,kB⟩;rw [ky] at kB;rw [nu hl kB];exact av
 ·have hd:(((a.map aw).length:Int) != ((b.map aw).length:Int))=true:=by rw [ky,qu];simpa using by omega
  rw [ry hl];refine ai Tryz.func166 Tryz.ntmps166 ?_;exact al
theorem GS (a b:List Nd) (ha:a.length<=1099511627776) (hb:b.length<=1099511627776) (ka:∀ x∈a,x.kids.length<=1099511627776) (kb:∀ x∈b,x.kids.length<=1099511627776) :
  GF Tryz.prog 168 [.sl 5 (a.map ay),.sl 5 (b.map ay),.v (.func (.func 169) #[] #[])] [] (.v (.bool (ff kE a b))) []:=by
 have ky:(a.map ay).length=a.length:=by simp
 have qu:(b.map ay).length=b.length:=by simp
 by_cases hl:a.length=b.length
 ·have hd:(((a.map ay).length:Int) != ((b.map ay).length:Int))=false:=by rw [ky,qu,hl];simp
  refine ai Tryz.func168 Tryz.ntmps168 ?_;refine GW.range (a.map ay).length (fun k fr Γ=>fr=[.U,.sl 5 (b.map ay),.v (.func (.func 169) #[] #[]),.U,.U,.U,.U,.U,.U,.U,.U,.U,.U,.U,.U,.sl 5 (a.map ay),.v (ii ((a.map ay).length:Int)),.v (ii (k:Nat)),.U,.U,.U,.U,.U,.U,.U,.U,.U,.U,.U,.U,.U,.U]/\Γ=[]/\sU kE a b k) ?_ ag ?_ ?_ ?_
  ·exact ⟨_,_,Wk.aC aq,rfl,rfl,fun j x y h=>by omega⟩
  ·exact gx
  ·rintro k _ _ ak ⟨rfl,rfl,kB⟩;rw [ky] at ak
   have ng:a[k]?=some a[k]:=by simp [ak]
   have pR:k < b.length:=by omega
   have oF:b[k]?=some b[k]:=by simp [pR]
   have Fm:(a.map ay)[k]?=some (ay a[k]):=by rw [getElem?_map,ng];rfl
   have Fo:(b.map ay)[k]?=some (ay b[k]):=by rw [getElem?_map,oF];rfl
   have hs:=KO a[k] b[k] (ka _ (getElem_mem ak)) (kb _ (getElem_mem pR));generalize a[k]=x at *;generalize b[k]=y at *;unfold ay at Fm Fo hs
   cases iU:kE x y with
   | true =>
    rw [iU] at hs;refine ae ?_;refine iC [] hs ?_;refine ae ?_;exact ⟨rfl,rfl,_,_,(Wk.cut (n:=0) (Nat.le_refl _) rfl).trans (Wk.aC aq),rfl,rfl,lN ng oF kB iU⟩
   | false =>
    rw [iU] at hs;rw [rz ng oF (p:=kE) iU];refine ae ?_;refine iC [] hs ?_;exact av
  ·rintro _ _ ⟨rfl,rfl,kB⟩;rw [ky] at kB;rw [nu hl kB];exact av
 ·have hd:(((a.map ay).length:Int) != ((b.map ay).length:Int))=true:=by rw [ky,qu];simpa using by omega
  rw [ry hl];refine ai Tryz.func168 Tryz.ntmps168 ?_;exact al
end Go.Xg
