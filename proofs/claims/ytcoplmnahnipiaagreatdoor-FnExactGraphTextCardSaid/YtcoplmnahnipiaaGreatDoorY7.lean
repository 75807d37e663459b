/- Part 7 of proofs that are told in their last texts. -/
import Derived.Test.YtcoplmnahnipiaaGreatDoorY4
import Derived.ProofKit
import Derived.Below
import Derived.ChangeSame
import Derived.Test.YtcoplmnahnipiaaGreatDoorY6
import Derived.Lib.Builder
import Derived.Lib.UnsafeStr
import Derived.Shelf.Strings.Builder1
import Derived.Shelf.Strings.Builder2
import Derived.Shelf.Small.Bits
import Derived.Shelf.Small.Strs
import Derived.Shelf.Strings.BuilderF
import Derived.Shelf.Strconv.Itoa0
import Derived.Shelf.Strconv.Itoa1
import Derived.Shelf.LaysM
import Derived.Shelf.Strconv.Itoa2
import Derived.Shelf.Strconv.Itoa3
import Derived.Shelf.Strings.Search1
import Derived.Shelf.Strings.Search2
import Derived.Shelf.Strings.Search3
import Derived.Shelf.Strings.Shaped
import Derived.Shelf.Sort.Plain
import Derived.Shelf.Strings.Prefix
import Derived.Shelf.Strings.Fields
import Derived.Shelf.Strings.SplitShaped
import Derived.Shelf.Unicode.Latin
import Derived.Shelf.Unicode.Is16White
import Derived.Shelf.Unicode.IsSpaceAny
import Derived.Shelf.Unicode.Is16Any
import Derived.Shelf.Unicode.Is32Any
import Derived.Shelf.Unicode.ExclAny
import Derived.Ground.Names2Prog
import Derived.Shelf.Slices.CompactI
import Derived.Shelf.Slices.SearchI
import Derived.Shelf.Slices.Cells
import Derived.Shelf.Slices.In.SortNone
import Derived.Test.YtcoplmnahnipiaaGreatDoorProg
import Derived.Test.YtcoplmnahnipiaaGreatDoorY5
import Derived.Test.YtcoplmnahnipiaaGreatDoorY2
import Derived.Lib.OwnBridge
import Derived.Lib.AppendIntMem
import Derived.Test.YtcoplmnahnipiaaGreatDoorY1
open List (all_append all_cons all_eq_false all_eq_true all_nil drop_eq_getElem_cons flatten_cons getD_cons_succ getD_cons_zero getElem?_append_left getElem?_eq_none getElem?_map getElem_mem length_append length_cons length_map length_nil map_append map_nil mem_map mem_of_getElem? mem_singleton sum_cons take_add_one take_length take_of_length_le)
set_option linter.unusedVariables false
set_option linter.unusedSimpArgs false
set_option maxRecDepth 100000
namespace Go.Xw
open Go.RowKit Go.WideShapes Go.ChangeShapes
section
variable {H:Type} {enc:TypeId × Value->H} {P:Program}
theorem ox {f:Func} {s:ChangeSpec} {apart fresh handsOn again:Bool} {W W':World} {args:Array Value} {v:Value} {ds gs:List (DataW H)} {before pa pv:List MemPlace}
  (hW:DataW.Whole enc P f.params.toList s.vars apart W args.toList ds gs before)
  (Ue:∀ (b:Nat) (sp:Nat->Bool) (hd:Bool),DataW.TrodAll enc P W' b sp hd f.resultTypes.toList (v.resultList f.resultTypes.size) (s.fn H (ds++gs)).results [])
  (tU:∀ sp:Nat->Bool,(∀ p∈before,sp p.block=true)->DataW.TrodAll enc P W' 0 sp true f.params.toList args.toList (s.fn H (ds++gs)).args pa)
  (QZ:∀ sp:Nat->Bool,(∀ p∈before,sp p.block=true)->DataW.TrodVars enc P W' sp s.vars (s.fn H (ds++gs)).vars pv)
  (DA:before=pa++pv) (hb:Below W.heap.size W W')
  (eJ:∀ (j:Nat) (t:TypeId) (r:Value),f.resultTypes[j]?=some t->(v.resultList f.resultTypes.size)[j]?=some r->Value.okWide P W' .any 0 t r) :
  s.post enc P f apart fresh handsOn again W args v W':=by
 have aq:∀ p∈before,p.block < W.heap.size:=fun p hp=>hW.lt p hp
 have hold:∀ p∈before,(fun b=>decide (b < W.heap.size)) p.block=true:=fun p hp=>by simpa using aq p hp
 refine ⟨ds,gs,before,[],pa,pv,hW,Ue _ _ _,tU _ hold,QZ _ hold,World.keptBut_mono (fun p hp=>⟨hp,?_⟩) (hb.frame (·∈before)),fun _=>?_⟩
 ·rw [DA,List.mem_append] at hp;exact Or.inr hp
 ·obtain ⟨_,_,_,_,_,hz,hn⟩:=hW;refine ⟨eJ,_,_,([]++pa)++pv,⟨[]++pa,pv,trodAll_append (tU _ (fun _ _=>rfl)) (Ue _ _ _),QZ _ (fun _ _=>rfl),rfl,?_,?_⟩,?_⟩
  ·intro b off hp
   have gh:MemPlace.cell b off∈before:=by rw [DA];simpa using hp
   rw [hb.frozen (aq _ gh)];exact hz b off gh
  ·intro ha;have:=hn ha;rw [DA] at this;simpa using this
  ·intro p hp _;rw [DA];simpa using hp
end
end Go.Xw
namespace Go.Xg
open Go.RowKit Go.Xw
class Ch (P:Program) (t:TypeId):Prop where
 und:∃ e j,P.underlying t=some (.pointer e)/\P.info? e=some j
theorem Ch.mk' {P:Program} {t e:TypeId} (h:P.underlying t=some (.pointer e)) (k:(P.info? e).isSome=true):Ch P t:=⟨e,(P.info? e).get k,h,by simp⟩
section
variable {P:Program} {m:Nat} {Q:dP} {fr:List GV} {Γ:List Ob} {ops:Array Oper} {rest:List Oper} {d:Option Tmp} {op:Op} {ty:TypeId} {pos:String} {af:Array Edge}
theorem YG.ph {x y:Operand} {t t':TypeId} [hT:Ch P t] {i o:Nat} (hx:aP fr x=.loc i o) (hy:aP fr y=.v (.pointer none)):YG P (.binOp .eql t x y t') fr Γ (.v (.bool false)):=fun B K β w l hI hF=>by
 have h:=hF.ev x;rw [hx] at h;generalize hv:ev l x=v at h
 cases h with
 | loc _ _ b hb =>
  obtain ⟨e,j,h1,h2⟩:=hT.und
  have hp:P.pointee t=e:=by simp [Program.pointee,h1]
  have:=run_eql_pointer_nil (P:=P) w t (some ⟨b,o,none⟩) (by rw [hp];exact h1);refine ⟨_,fun d ty pos af=>?_,.v _⟩;simp [execOp,eqGuard,hv,hF.gE hy,this]
theorem YG.pJ {x y:Operand} {t t':TypeId} [hT:Ch P t] {i o:Nat} (hx:aP fr x=.loc i o) (hy:aP fr y=.loc i o):YG P (.binOp .neq t x y t') fr Γ (.v (.bool false)):=fun B K β w l hI hF=>by
 have h:=hF.ev x;rw [hx] at h;have h':=hF.ev y;rw [hy] at h';generalize hv:ev l x=v at h;generalize BH:ev l y=v' at h'
 cases h with
 | loc _ _ b hb =>
  cases h' with
  | loc _ _ b' bg =>
   rw [hb] at bg;cases bg;obtain ⟨e,j,h1,h2⟩:=hT.und;have:=Lib.run_neq_ptr_same (P:=P) w ⟨b,o,none⟩ h1 h2;refine ⟨_,fun d ty pos af=>?_,.v _⟩;simp [execOp,eqGuard,hv,BH,this]
theorem Inv.again {B:Bs} {K:Fz} {β:Bt} {Γ:List Ob} {w w':World} {i E k:Nat} {rows:List (List GV)} {x:Value} {xs:List Value} (h:Inv B K β Γ w) (hi:Γ[i]?=some (.vech E k rows x)) (ho:gk w' 0 E k x rows.length xs) (hr:aV K β xs rows.flatten)
  (hx:Ext (fun b=>x.ownBlock=some b) w w'):Inv B K β Γ w':=by
 obtain ⟨xs0,h1,h2,h3,h4,h5⟩:=h.ob i _ hi
 have ef:∀ b,x.ownBlock=some b->(β i).blk=some b:=fun b hb=>by rw [h1];exact hb
 refine ⟨h.ext.step hx (fun j hj=>(h.own i j (ef j hj)).symm),h.kle,h.ble,h.loc,h.fz.ext hx (fun b o g hg he=>by rw [h5 b he o] at hg;cases hg),fun j y hj=>?_,h.out,h.dis,h.own,h.kn,h.tab.step hx (fun j hj=>⟨i,ef j hj⟩) (ca.refl K) (fun i b2 h=>.inl ⟨i,h⟩)⟩
 by_cases hji:j=i
 ·subst hji;rw [hi] at hj;cases hj;exact ⟨xs,h1,ho,hr,h4,h5⟩
 ·exact (h.ob j y hj).ext hx (fun b hb he=>hji (h.dis j i b hb (ef b he))) (ca.refl K) (cX.refl β) rfl (fun _ _ _ h=>h)
theorem GL.Vz {s x:Operand} {t u e:Nat} [hT:C9 P t e] [hU:pd P u] (i:Nat) {n:Nat} {dt:Tmp} {v:Value} {rows:List (List GV)} {str:ah} (hx:aP fr x=.v (sv str)) (hs:aP fr s=.v v) (br:Γ[i]?=some (.vech e 1 rows v)) (hn:rows.length=n) (bK:str.isEmpty=false)
  (hb:n+str.length<=140737488355328)
  (h:∀ a c,GL P m ops Q rest (bh fr (some dt) (.v (.slice a (n+str.length) c))) (oset Γ i (.vech e 1 (rows++bZ str) (.slice a (n+str.length) c)))) :
  GL P m ops Q (⟨some dt,.call ⟨.builtin .append,#[s,x],#[t,u]⟩,ty,pos,af,none⟩::rest) fr Γ:=fun B K β w l hm hI hF=>by
 subst hn
 have bK:str≠[]:=by intro h0;rw [h0] at bK;cases bK
 obtain ⟨xs,o1,o2,o3,o4,o5⟩:=hI.ob i _ br;have qd:ev l s=v:=hF.gE hs
 have iU:(bZ str).flatten=str.map fun c=>GV.v (.int .u8 (c.toNat:Int)):=by
  unfold bZ;clear hx bK hb h;generalize str=s
  induction s with
  | nil=>rfl
  | cons c r ih=>simp only [List.map_cons,flatten_cons,ih];rfl
 have hlen:(bZ str).length=str.length:=by simp [bZ]
 refine WL.Cj (base:=0) (v:=v) (n:=rows.length) (xs:=xs) (str:=str) qd o2 (hF.gE hx) hb (Nat.zero_le _) ?_;intro v' w' how gq tV vf
 obtain ⟨K',hK,qe,bd⟩:=(hI.yt br).grow (fz:=0) (oF br) o1 ⟨o2,o3⟩ (news:=bZ str) (ns:=jX str) (by rw [hlen];exact how) gq tV (by rw [iU];exact (by
   have:(str.map fun c=>GV.v (.int .u8 (c.toNat:Int)))=jM (jX str):=by simp [jM,jX]
   rw [this];exact aV.self)) (fun r hr=>by
   simp only [bZ,mem_map] at hr;obtain ⟨c,_,rfl⟩:=hr
   exact ⟨rfl,fun g hg=>by rw [mem_singleton] at hg;subst hg;rfl⟩) (by intro h0;exact bK (List.map_eq_nil_iff.1 h0)) (fun b bg o v ho hv=>by omega)
 rw [<-aY,mV] at bd;obtain ⟨a,c,px,nG⟩:=bd.wc (oF br);rw [mV] at nG;obtain ⟨a',c',rfl⟩:=how.shape;rw [ba] at px;simp only [length_append,hlen] at px nG qe;cases px;exact h _ _ B K' _ w' _ hm nG ((hF.mono hK qe).put (some dt) (.v _))
theorem GL.Vy {s x:Operand} {t u e:Nat} [hT:C9 P t e] [hU:pd P u] (i:Nat) {rows:List (List GV)} {v:Value} (hx:aP fr x=.v (sv [])) (hs:aP fr s=.v v) (br:Γ[i]?=some (.vech e 1 rows v)) (hb:rows.length<=140737488355328)
  (h:GL P m ops Q rest (bh fr d (.v v)) Γ):GL P m ops Q (⟨d,.call ⟨.builtin .append,#[s,x],#[t,u]⟩,ty,pos,af,none⟩::rest) fr Γ:=fun B K β w l hm hI hF=>by
 obtain ⟨xs,o1,o2,o3,o4,o5⟩:=hI.ob i _ br;have qd:=hF.gE hs;have rm:=hF.gE hx;obtain ⟨hu,i',hi,hz,cI,xH⟩:=hT.is;have vh:(⟨([]:ah).toArray⟩:ByteArray).size=0:=rfl;obtain ⟨v',w',hr,h2,h3,h4⟩:=Lib.run_append_own_string (P:=P) w 0 t u ty e i' hu hU.und hi hz cI xH v rows.length xs o2 ⟨([]:ah).toArray⟩ (by rw [vh];simp only [maxLen];omega) (by rw [vh];omega) (Nat.zero_le _)
 have BH:v'=v:=by
  rcases o2.2 with ⟨rfl,h6⟩ | ⟨g,cap,cur,rfl,mP,hg,n9,wW,eV,BE⟩
  ·exact h4.2 ⟨rfl,rfl⟩
  ·have TN:cur.size=cap:=by simpa using eV
   have c6:=Lib.run_append_room_string (P:=P) w t u ty e i' hu hU.und hi cI g rows.length cap cur hg ⟨([]:ah).toArray⟩ (by rw [vh];omega) (by unfold maxLen at wW;rw [vh];omega);rw [hr] at c6;cases c6;rfl
 subst BH;have mj:(Builtin.append_ #[t,u] ty #[v',sv []]).run P w=.ok v' w':=hr;have eV:Lib.strCells ⟨([]:ah).toArray⟩=[]:=rfl;rw [eV,List.append_nil] at h2;have gq:Ext (fun b=>v'.ownBlock=some b) w w':=⟨h3.os,h3.tape,h3.output,h3.size,fun j hj hn=>h3.block j hj fun he=>hn he.symm⟩;have bd:=hI.again br h2 o3 gq;exact WL.val (v:=v') (w':=w') (by simp [execOp,resolve,invoke,builtin,qd,rm,mj]) (h B K β w' _ hm bd (hF.put d (.v _)))
theorem YG.rv {x:Operand} {t:TypeId} (i:Nat) {E n c:Nat} {a:Option Addr} {rows:List (List GV)} (hx:aP fr x=.v (.slice a n c)) (br:Γ[i]?=some (.vech E 1 rows (.slice a n c))) (hn:rows.length=n) (hp:Nat.blt 0 n=true) :
  YG P (.call ⟨.builtin .unsafeSliceData,#[x],#[t]⟩) fr Γ (.vp i n 1 0 0):=fun B K β w l hI hF=>by
 subst hn
 have hp:0 < rows.length:=by simpa using hp
 obtain ⟨xs,h1,h2,h3,h4,h5⟩:=hI.ob i _ br;have hv:=hF.gE hx
 rcases h2.2 with ⟨h8,h9⟩ | ⟨g,cap,cur,h8,_,hg,n9,_⟩
 ·omega
 ·cases h8
  have hr:=fun ts ty=>Lib.run_unsafeSliceData_row (P:=P) (w:=w) ts ty ⟨g,0,none⟩ rows.length c ae
  exact ⟨.pointer (some ⟨g,0,none⟩),fun d ty pos af=>by simp [execOp,resolve,invoke,builtin,hv,hr],.vp i _ 1 0 0 _ ⟨_,_,h1,Nat.le_refl _,fun _=>⟨g,rfl,by simp⟩⟩⟩
theorem GL.N5 {x y:Operand} {pt it e:TypeId} (i:Nat) {str:ah} {rows:List (List GV)} {v:Value} (hp:P.underlying pt=some (.pointer e)) (hc:P.cellsOf e=1) (hx:aP fr x=.vp i str.length 1 0 0) (hy:aP fr y=.v (ii str.length)) (br:Γ[i]?=some (.vech e 1 rows v)) (jF:rows=bZ str)
  (bK:str.isEmpty=false) (hb:str.length<=140737488355328)
  (h:GL P m ops Q rest (bh fr d (.v (sv str))) (oset Γ i .lost)):GL P m ops Q (⟨d,.call ⟨.builtin .unsafeString,#[x,y],#[pt,it]⟩,ty,pos,af,none⟩::rest) fr Γ:=fun B K β w l hm hI hF=>by
 have bK:str≠[]:=by intro h0;rw [h0] at bK;cases bK
 subst jF;obtain ⟨xs,o1,o2,o3,o4,o5⟩:=hI.ob i _ br
 have hlen:(bZ str).length=str.length:=by simp [bZ]
 have hr:=hF.ev x;rw [hx] at hr;have Uu:=hF.gE hy;generalize hv:ev l x=u at hr
 cases hr with
 | vp _ _ _ _ _ _ hh =>
  obtain ⟨h0,mm,e1,e2,e3⟩:=hh;rw [e1] at o1;cases o1;obtain ⟨b,QL,rfl⟩:=e3 hlen
  rcases o2.2 with ⟨h8,h9⟩ | ⟨g,cap,cur,h8,_,hg,n9,wW,eV,BE⟩
  ·rw [hlen] at h9;exact absurd (List.eq_nil_of_length_eq_zero h9) bK
  ·subst h8;simp only [Value.ownBlock,Option.some.injEq] at QL;subst QL
   have oT:xs=jX str:=by
    have iU:(bZ str).flatten=jM (jX str):=by
     have:(bZ str).flatten=str.map fun c=>GV.v (.int .u8 (c.toNat:Int)):=by
      unfold bZ;generalize str=s
      induction s with
      | nil=>rfl
      | cons c r ih=>simp only [List.map_cons,flatten_cons,ih];rfl
     rw [this];simp [jM,jX]
    rw [iU] at o3;apply List.ext_getElem
    ·have:=o3.1;simpa [jM] using this
    ·intro j h1 h2;have:=o3.2 j xs[j] (.v (jX str)[j]) (by simp [h1]) (by simp [jM,h2]);exact Rel.dR this
   have kP:∀ j y,str[j]?=some y->w.cell? ((⟨g,0,none⟩:Addr).add j)=some (.int .u8 y.toNat):=fun j y hy=>by
    have:=World.ownsRow.cells (g:=g) o2 rfl j (.int .u8 y.toNat) (by rw [oT];simp [jX,hy]);exact this
   have aac:(bZ str).length<=cur.size:=by rw [eV];omega
   have mj:=Lib.run_unsafeString_row (P:=P) w pt it ty e hp hc g cur.size (by simp [World.shape?,hg]) str bK ae ae kP
   have gq:Ext (·=g) w (w.freeze ⟨g,0,none⟩ str.length):=by
    have:=Lib.below_freeze (Below.refl 0 w) (p:=⟨g,0,none⟩) (Nat.zero_le g) str.length
    exact ⟨this.os,this.tape,this.output,this.size,fun k hk hn=>by
     unfold World.freeze;split
     ·rfl
     ·simp only [Array.getElem?_modify]
      rw [if_neg (fun he=>hn he.symm)]⟩
   have ef:(β i).blk=some g:=by rw [e1];rfl
   have bd:Inv B K β (oset Γ i .lost) (w.freeze ⟨g,0,none⟩ str.length):=by
    refine ⟨hI.ext.step gq (fun j hj=>by subst hj;exact (hI.own i _ ef).symm),hI.kle,hI.ble,hI.loc,hI.fz.ext gq (fun b o g' kW he=>by subst he;rw [o5 _ rfl o] at kW;cases kW),fun j y hj=>?_,fun j hj=>hI.out j (by simpa [aY] using hj),hI.dis,hI.own,hI.kn,hI.tab.step gq (fun j hj=>⟨i,by subst hj;exact ef⟩) (ca.refl K) (fun i b2 h=>.inl ⟨i,h⟩)⟩;rw [aY,List.getElem?_set] at hj;split at hj
    ·rename_i fB;split at hj
     ·cases hj;subst fB
      intro b bg;rw [ef] at bg;cases bg;have:=rp hg;exact Nat.lt_of_lt_of_le this gq.size
     ·cases hj
    ·rename_i fB;exact (hI.ob j y hj).ext gq (fun b hb he=>by subst he;exact fB (hI.dis i j _ ef hb)) (ca.refl K) (cX.refl β) rfl (fun _ _ _ h=>h)
   exact WL.val (v:=sv str) (w':=w.freeze ⟨g,0,none⟩ str.length) (by simp [execOp,resolve,invoke,builtin,hv,Uu,mj,sv]) (h B K β _ _ hm bd (hF.put d (.v _)))
theorem Inv.Qs {B:Bs} {K:Fz} {β:Bt} {Γ:List Ob} {w:World} {x:Bk} {y:Ob} (h:Inv B K β Γ w) (hd:∀ b,x.blk=some b->(∀ i,(β i).blk≠some b)/\B.w0.heap.size<=b/\(b≠3/\b≠0))
  (ho:jN K (ep β Γ.length x) w Γ.length y) (hold:cX β (ep β Γ.length x)):Inv B K (ep β Γ.length x) (Γ++[y]) w:=by
 refine ⟨h.ext,h.kle,h.ble.trans hold,h.loc,h.fz,fun i z hi=>?_,fun i hi=>?_,fun i j b hi hj=>?_,fun i b hi=>?_,h.kn,⟨h.tab.le,h.tab.pow,h.tab.spc,fun i b hi=>?_⟩⟩
 ·by_cases wY:i < Γ.length
  ·rw [getElem?_append_left wY] at hi;exact (h.ob i z hi).ext (S:=gP) (Ext.refl w) (fun _ _ h=>h) (ca.refl K) hold (bx ae) (fun _ _ _ h=>h)
  ·have:i=Γ.length:=by have:=(List.getElem?_eq_some_iff.1 hi).1;simp at this;omega
   subst this;simp at hi;subst hi;exact ho
 ·simp at hi;rw [bx ae];exact h.out i ae
 ·by_cases h1:i=Γ.length <;> by_cases h2:j=Γ.length
  ·omega
  ·subst h1;rw [ba] at hi;rw [bx h2] at hj;exact absurd hj ((hd b hi).1 j)
  ·subst h2;rw [ba] at hj;rw [bx h1] at hi;exact absurd hi ((hd b hj).1 i)
  ·rw [bx h1] at hi;rw [bx h2] at hj;exact h.dis i j b hi hj
 ·rcases lD hi with h1 | h1
  ·exact .inr (hd b h1).2.1
  ·exact h.own i b h1
 ·rcases lD hi with h1 | h1
  ·exact (hd b h1).2.2
  ·exact h.tab.free i b h1
theorem YG.WC {x lo:Operand} {t e:TypeId} {k:Nat} [hT:mq P t e k] {rows:List (List GV)} {kk:IntKind} {i:Nat} (hx:aP fr x=.sl k rows) (gS:aP fr lo=.v (.int kk i)) (hi:Nat.blt i rows.length=true):YG P (.slice t x (some lo) none none) fr Γ (.sl k (rows.drop i)):=fun B K β w l hI hF=>by
 have hi:i < rows.length:=by simpa using hi
 have h:=hF.ev x;rw [hx] at h;have IA:=hF.gE gS;generalize hv:ev l x=v at h
 cases h with
 | sl0 a c=>simp at hi
 | sl b o c _ _ h hc =>
  refine ⟨.slice (some ⟨b,o+i * k,none⟩) (rows.length - i) (c - i),fun d ty pos af=>?_,?_⟩
  ·have nH:¬ (c=i):=by omega
   have hle:(i:Int)<=(rows.length:Int):=by omega
   simp [execOp,Instr.sliceAt,Instr.slice,Instr.sliceBounds,Instr.sliceBound,asIntOf,hv,IA,run_underlying hT.und,im hT.siz,nH,Nat.le_of_lt hi,pf]
  ·have:=Rel.sl (K:=K) (β:=β) b (o+i * k) (c - i) k (rows.drop i) (fun j r hr=>?_) (by simp;omega)
   ·rw [List.length_drop] at this;exact this
   ·rw [List.getElem?_drop] at hr;refine ⟨(h (i+j) r hr).1,fun q g hg=>?_⟩;have:=(h (i+j) r hr).2 q g hg;rw [Nat.add_mul] at this;rw [show o+i * k+j * k+q=o+(i * k+j * k)+q by omega];exact this
theorem YG.mY {x lo:Operand} {t e:TypeId} {k:Nat} [hT:mq P t e k] {rows:List (List GV)} {kk:IntKind} {n:Int} (i:Nat) (hx:aP fr x=.sl k rows) (gS:aP fr lo=.v (.int kk n)) (hn:n=(i:Int)) (hi:Nat.blt i rows.length=true):YG P (.slice t x (some lo) none none) fr Γ (.sl k (rows.drop i)):=by
 subst hn;exact YG.WC hx gS hi
end
end Go.Xg
namespace Go.Proofs
open Go.Shelf
def Tryz.zH:Go.Shelf.Ren:=⟨fun | 165=>228 | 240=>263 | 241=>264 | 276=>285 | 277=>286 | n=>n,fun | 70=>225 | 3=>3 | 0=>0 | 4=>4 | 9=>9 | 20=>20 | 72=>227 | 37=>143 | 164=>270 | 5=>5 | n=>n,fun | n=>n⟩
theorem Tryz.Sd:Go.Proofs.Lays.n165 Tryz.prog Tryz.zH:={
 mixed:=by kernel_rfl
 f165:=Tryz.func228.trans (congrArg some (by kernel_rfl))
 f240:=Tryz.func263.trans (congrArg some (by kernel_rfl))
 f241:=Tryz.func264.trans (congrArg some (by kernel_rfl))
 f276:=Tryz.func285.trans (congrArg some (by kernel_rfl))
 f277:=Tryz.func286.trans (congrArg some (by kernel_rfl))
 t0:=Tryz.underlying0
 a0:=Tryz.isAgg0
 z0:=Tryz.sizeOf0
 v0:=Tryz.zeroValue0
 t3:=Tryz.underlying3
 a3:=Tryz.isAgg3
 z3:=Tryz.sizeOf3
 v3:=Tryz.zeroValue3
 t4:=Tryz.underlying4
 a4:=Tryz.isAgg4
 z4:=Tryz.sizeOf4
 v4:=Tryz.zeroValue4
 t9:=Tryz.underlying9
 a9:=Tryz.isAgg9
 z9:=Tryz.sizeOf9
 v9:=Tryz.zeroValue9
 t20:=Tryz.underlying20
 a20:=Tryz.isAgg20
 z20:=Tryz.sizeOf20
 v20:=Tryz.zeroValue20
 t37:=Tryz.underlying143
 a37:=Tryz.isAgg143
 z37:=Tryz.sizeOf143
 v37:=Tryz.zeroValue143
 t70:=Tryz.underlying225
 a70:=Tryz.isAgg225
 z70:=Tryz.sizeOf225
 v70:=Tryz.zeroValue225
 t72:=Tryz.underlying227
 a72:=Tryz.isAgg227
 z72:=Tryz.sizeOf227
 v72:=Tryz.zeroValue227
 t164:=Tryz.underlying270
 a164:=Tryz.isAgg270
 z164:=Tryz.sizeOf270
 v164:=Tryz.zeroValue270 }
theorem Tryz.zd:Builder.Extra Tryz.prog Tryz.zH:={
 sizeBuilder:=by kernel_rfl
 liesBuilder:=by kernel_rfl
 t5:=Tryz.underlying5
 a5:=Tryz.isAgg5
 z5:=Tryz.sizeOf5
 v5:=Tryz.zeroValue5
 infoByte:=by kernel_rfl
 cellsByte:=by kernel_rfl
 sizeByte:=by kernel_rfl
 neB5:=by decide }
open Go.RowKit in
theorem Tryz.Builder_Grow_fresh (B b n:Nat) (w:World) (hB:B<=b) (ef:w.heap[b]?=some (.cells #[.pointer none,.slice none 0 0] 227 (0,0))) (Y9:B<=w.heap.size) (hn:n<=281474976710656) :
  Calls Tryz.prog 228 #[.pointer (some ⟨b,0,none⟩),.int .i64 n] w fun e w'=>e=.returned (.tuple #[])/\(Lib.BuilderAt 227 5 B b (.pointer (some ⟨b,0,none⟩)) [] w'/\Below B w w'):=Any.Builder_Grow_fresh Tryz.Sd Tryz.zd B b n w hB ef Y9 hn
def Tryz.HA:Go.Shelf.Ren:=⟨fun | 137=>202 | 217=>235 | 266=>266 | n=>n,fun | 9=>9 | 5=>5 | 3=>3 | n=>n,fun | n=>n⟩
theorem Tryz.Sb:Go.Proofs.Lays.n137 Tryz.prog Tryz.HA:={
 mixed:=by kernel_rfl
 f137:=Tryz.func202.trans (congrArg some (by kernel_rfl))
 f217:=Tryz.func235.trans (congrArg some (by kernel_rfl))
 f266:=Tryz.func266.trans (congrArg some (by kernel_rfl))
 t3:=Tryz.underlying3
 a3:=Tryz.isAgg3
 z3:=Tryz.sizeOf3
 v3:=Tryz.zeroValue3
 t5:=Tryz.underlying5
 a5:=Tryz.isAgg5
 z5:=Tryz.sizeOf5
 v5:=Tryz.zeroValue5
 t9:=Tryz.underlying9
 a9:=Tryz.isAgg9
 z9:=Tryz.sizeOf9
 v9:=Tryz.zeroValue9 }
open Go.RowKit in
theorem Tryz.strings_IndexByte (s:ByteArray) (c:Int) (w:World) :
  Calls Tryz.prog 202 #[.string s,.int .u8 c] w fun e w'=>e=.returned (.int .i64 (Lib.indexByte s.data.toList c.toNat.toUInt8))/\w'=w:=Any.strings_IndexByte Tryz.Sb s c w
def Tryz.UE:Go.Shelf.Ren:=⟨fun | 246=>262 | 283=>281 | 284=>282 | 285=>283 | 286=>284 | 129=>184 | 317=>295 | 318=>296 | 319=>297 | 320=>298 | 337=>302 | 338=>303 | n=>n,fun | 2=>2 | 3=>3 | 9=>9 | 4=>4 | 171=>266 | 0=>0 | 53=>177 | 37=>143 | 5=>5 | 173=>268 | 212=>287 | 51=>175 | 20=>20 | 213=>288 | 46=>142 | 232=>294 | 233=>295 | n=>n,fun | 17=>3 | 18=>4 | 19=>5 | n=>n⟩
def Tryz.UD:Go.Shelf.Ren:=⟨fun | 243=>227 | 246=>262 | 283=>281 | 284=>282 | 285=>283 | 286=>284 | 129=>184 | 317=>295 | 318=>296 | 319=>297 | 320=>298 | 337=>302 | 338=>303 | n=>n,fun | 3=>3 | 9=>9 | 2=>2 | 4=>4 | 171=>266 | 0=>0 | 53=>177 | 37=>143 | 5=>5 | 173=>268 | 212=>287 | 51=>175 | 20=>20 | 213=>288 | 46=>142 | 232=>294 | 233=>295 | n=>n,fun | 17=>3 | 18=>4 | 19=>5 | n=>n⟩
def Tryz.F3:Go.Shelf.Ren:=⟨fun | 171=>195 | 243=>227 | 246=>262 | 283=>281 | 284=>282 | 285=>283 | 286=>284 | 129=>184 | 317=>295 | 318=>296 | 319=>297 | 320=>298 | 337=>302 | 338=>303 | n=>n,fun | 3=>3 | 9=>9 | 2=>2 | 4=>4 | 171=>266 | 0=>0 | 53=>177 | 37=>143 | 5=>5 | 173=>268 | 212=>287 | 51=>175 | 20=>20 | 213=>288 | 46=>142 | 232=>294 | 233=>295 | n=>n,fun | 17=>3 | 18=>4 | 19=>5 | n=>n⟩
theorem Tryz.Pu:Go.Proofs.LaysM.n171 Tryz.prog Tryz.F3:={
 mixed:=by kernel_rfl
 f129:=Tryz.func184.trans (congrArg some (by kernel_rfl))
 f171:=Tryz.func195.trans (congrArg some (by kernel_rfl))
 f243:=Tryz.func227.trans (congrArg some (by kernel_rfl))
 f246:=Tryz.func262.trans (congrArg some (by kernel_rfl))
 f283:=Tryz.func281.trans (congrArg some (by kernel_rfl))
 f284:=Tryz.func282.trans (congrArg some (by kernel_rfl))
 f285:=Tryz.func283.trans (congrArg some (by kernel_rfl))
 f286:=Tryz.func284.trans (congrArg some (by kernel_rfl))
 f317:=Tryz.func295.trans (congrArg some (by kernel_rfl))
 f318:=Tryz.func296.trans (congrArg some (by kernel_rfl))
 f319:=Tryz.func297.trans (congrArg some (by kernel_rfl))
 f320:=Tryz.func298.trans (congrArg some (by kernel_rfl))
 f337:=Tryz.func302.trans (congrArg some (by kernel_rfl))
 f338:=Tryz.func303.trans (congrArg some (by kernel_rfl))
 t0:=Tryz.underlying0
 a0:=Tryz.isAgg0
 z0:=Tryz.sizeOf0
 v0:=Tryz.zeroValue0
 t2:=Tryz.underlying2
 a2:=Tryz.isAgg2
 z2:=Tryz.sizeOf2
 v2:=Tryz.zeroValue2
 t3:=Tryz.underlying3
 a3:=Tryz.isAgg3
 z3:=Tryz.sizeOf3
 v3:=Tryz.zeroValue3
 t4:=Tryz.underlying4
 a4:=Tryz.isAgg4
 z4:=Tryz.sizeOf4
 v4:=Tryz.zeroValue4
 t5:=Tryz.underlying5
 a5:=Tryz.isAgg5
 z5:=Tryz.sizeOf5
 v5:=Tryz.zeroValue5
 t9:=Tryz.underlying9
 a9:=Tryz.isAgg9
 z9:=Tryz.sizeOf9
 v9:=Tryz.zeroValue9
 t20:=Tryz.underlying20
 a20:=Tryz.isAgg20
 z20:=Tryz.sizeOf20
 v20:=Tryz.zeroValue20
 t37:=Tryz.underlying143
 a37:=Tryz.isAgg143
 z37:=Tryz.sizeOf143
 v37:=Tryz.zeroValue143
 t46:=Tryz.underlying142
 a46:=Tryz.isAgg142
 z46:=Tryz.sizeOf142
 v46:=Tryz.zeroValue142
 t51:=Tryz.underlying175
 a51:=Tryz.isAgg175
 z51:=Tryz.sizeOf175
 v51:=Tryz.zeroValue175
 t53:=Tryz.underlying177
 a53:=Tryz.isAgg177
 z53:=Tryz.sizeOf177
 v53:=Tryz.zeroValue177
 t171:=Tryz.underlying266
 a171:=Tryz.isAgg266
 z171:=Tryz.sizeOf266
 v171:=Tryz.zeroValue266
 t173:=Tryz.underlying268
 a173:=Tryz.isAgg268
 z173:=Tryz.sizeOf268
 v173:=Tryz.zeroValue268
 t212:=Tryz.underlying287
 a212:=Tryz.isAgg287
 z212:=Tryz.sizeOf287
 v212:=Tryz.zeroValue287
 t213:=Tryz.underlying288
 a213:=Tryz.isAgg288
 z213:=Tryz.sizeOf288
 t232:=Tryz.underlying294
 a232:=Tryz.isAgg294
 z232:=Tryz.sizeOf294
 v232:=Tryz.zeroValue294
 t233:=Tryz.underlying295
 a233:=Tryz.isAgg295
 z233:=Tryz.sizeOf295
 v233:=Tryz.zeroValue295
 g17:=by kernel_rfl
 g18:=by kernel_rfl
 g19:=by kernel_rfl
 i0:=by kernel_rfl
 i2:=by kernel_rfl
 i3:=by kernel_rfl
 i4:=by kernel_rfl
 i5:=by kernel_rfl
 i9:=by kernel_rfl
 i20:=by kernel_rfl
 i37:=by kernel_rfl
 i46:=by kernel_rfl
 i51:=by kernel_rfl
 i53:=by kernel_rfl
 i171:=by kernel_rfl
 i173:=by kernel_rfl
 i212:=by kernel_rfl
 i232:=by kernel_rfl
 i233:=by kernel_rfl
 m17:=by kernel_rfl
 m18:=by kernel_rfl
 m19:=by kernel_rfl }
open Go.RowKit Go.Sort Go.Lib in
theorem Tryz.strconv_Itoa (n:Int) (h0 : -9223372036854775808<=n) (h1:n<=9223372036854775807) (w:World) (AM:Lib.TabIs Tryz.prog w "internal/strconv.uint64pow10" .u64 Lib.pow10Tab) :
  Calls Tryz.prog 195 #[.int .i64 n] w fun e w'=>e=.returned (.string ⟨(Lib.itoa n).toArray⟩)/\∃ k os,w'=grow (w.drewN k) os:=Any.strconv_Itoa Tryz.Pu n h0 h1 w AM
def Tryz.Vu:Go.Shelf.Ren:=⟨fun | 219=>237 | 217=>235 | 225=>267 | 224=>268 | 267=>269 | 266=>266 | 314=>287 | n=>n,fun | 9=>9 | 3=>3 | 4=>4 | 5=>5 | 46=>142 | 146=>273 | 51=>175 | n=>n,fun | 1=>1 | n=>n⟩
def Tryz.HB:Go.Shelf.Ren:=⟨fun | 143=>204 | 219=>237 | 217=>235 | 225=>267 | 224=>268 | 267=>269 | 266=>266 | 314=>287 | n=>n,fun | 9=>9 | 3=>3 | 4=>4 | 5=>5 | 46=>142 | 146=>273 | 51=>175 | n=>n,fun | 1=>1 | n=>n⟩
theorem Tryz.Sc:Go.Proofs.Lays.n143 Tryz.prog Tryz.HB:={
 mixed:=by kernel_rfl
 f143:=Tryz.func204.trans (congrArg some (by kernel_rfl))
 f217:=Tryz.func235.trans (congrArg some (by kernel_rfl))
 f219:=Tryz.func237.trans (congrArg some (by kernel_rfl))
 f224:=Tryz.func268.trans (congrArg some (by kernel_rfl))
 f225:=Tryz.func267.trans (congrArg some (by kernel_rfl))
 f266:=Tryz.func266.trans (congrArg some (by kernel_rfl))
 f267:=Tryz.func269.trans (congrArg some (by kernel_rfl))
 f314:=Tryz.func287.trans (congrArg some (by kernel_rfl))
 t3:=Tryz.underlying3
 a3:=Tryz.isAgg3
 z3:=Tryz.sizeOf3
 v3:=Tryz.zeroValue3
 t4:=Tryz.underlying4
 a4:=Tryz.isAgg4
 z4:=Tryz.sizeOf4
 v4:=Tryz.zeroValue4
 t5:=Tryz.underlying5
 a5:=Tryz.isAgg5
 z5:=Tryz.sizeOf5
 v5:=Tryz.zeroValue5
 t9:=Tryz.underlying9
 a9:=Tryz.isAgg9
 z9:=Tryz.sizeOf9
 v9:=Tryz.zeroValue9
 t46:=Tryz.underlying142
 a46:=Tryz.isAgg142
 z46:=Tryz.sizeOf142
 v46:=Tryz.zeroValue142
 t51:=Tryz.underlying175
 a51:=Tryz.isAgg175
 z51:=Tryz.sizeOf175
 v51:=Tryz.zeroValue175
 t146:=Tryz.underlying273
 a146:=Tryz.isAgg273
 z146:=Tryz.sizeOf273
 v146:=Tryz.zeroValue273
 g1:=by kernel_rfl }
open Go.RowKit Go.Lib in
theorem Tryz.strings_Index (s sub:ByteArray) (m:Int) (w:World) (hs:s.size < 4294967281) (hm:w.cell? ⟨1,0,none⟩=some (.int .i64 m)) :
  Calls Tryz.prog 204 #[.string s,.string sub] w fun e w'=>e=.returned (.int .i64 (Lib.index s.data.toList sub.data.toList))/\w'=w:=Any.strings_Index Tryz.Sc s sub m w hs hm
def Tryz.HC:Go.Shelf.Ren:=⟨fun | 189=>105 | 125=>142 | 257=>141 | 128=>183 | 129=>184 | 294=>174 | 295=>175 | 296=>176 | 297=>177 | 298=>178 | 299=>179 | 216=>180 | 300=>181 | 301=>182 | 328=>210 | 329=>211 | 330=>212 | 331=>213 | 332=>214 | 215=>215 | 343=>246 | n=>n,fun | 28=>40 | 3=>3 | 46=>142 | 0=>0 | 51=>175 | 53=>177 | 4=>4 | 183=>167 | 182=>166 | 131=>172 | 5=>5 | 9=>9 | 218=>210 | 222=>214 | 228=>242 | 229=>108 | n=>n,fun | n=>n⟩
theorem Tryz.IU:Go.Proofs.Lays.n189 Tryz.prog Tryz.HC:={
 mixed:=by kernel_rfl
 f125:=Tryz.func142.trans (congrArg some (by kernel_rfl))
 f128:=Tryz.func183.trans (congrArg some (by kernel_rfl))
 f129:=Tryz.func184.trans (congrArg some (by kernel_rfl))
 f189:=Tryz.func105.trans (congrArg some (by kernel_rfl))
 f215:=Tryz.func215.trans (congrArg some (by kernel_rfl))
 f216:=Tryz.func180.trans (congrArg some (by kernel_rfl))
 f257:=Tryz.func141.trans (congrArg some (by kernel_rfl))
 f294:=Tryz.func174.trans (congrArg some (by kernel_rfl))
 f295:=Tryz.func175.trans (congrArg some (by kernel_rfl))
 f296:=Tryz.func176.trans (congrArg some (by kernel_rfl))
 f297:=Tryz.func177.trans (congrArg some (by kernel_rfl))
 f298:=Tryz.func178.trans (congrArg some (by kernel_rfl))
 f299:=Tryz.func179.trans (congrArg some (by kernel_rfl))
 f300:=Tryz.func181.trans (congrArg some (by kernel_rfl))
 f301:=Tryz.func182.trans (congrArg some (by kernel_rfl))
 f328:=Tryz.func210.trans (congrArg some (by kernel_rfl))
 f329:=Tryz.func211.trans (congrArg some (by kernel_rfl))
 f330:=Tryz.func212.trans (congrArg some (by kernel_rfl))
 f331:=Tryz.func213.trans (congrArg some (by kernel_rfl))
 f332:=Tryz.func214.trans (congrArg some (by kernel_rfl))
 f343:=Tryz.func246.trans (congrArg some (by kernel_rfl))
 t0:=Tryz.underlying0
 a0:=Tryz.isAgg0
 z0:=Tryz.sizeOf0
 v0:=Tryz.zeroValue0
 t3:=Tryz.underlying3
 a3:=Tryz.isAgg3
 z3:=Tryz.sizeOf3
 v3:=Tryz.zeroValue3
 t4:=Tryz.underlying4
 a4:=Tryz.isAgg4
 z4:=Tryz.sizeOf4
 v4:=Tryz.zeroValue4
 t5:=Tryz.underlying5
 a5:=Tryz.isAgg5
 z5:=Tryz.sizeOf5
 v5:=Tryz.zeroValue5
 t9:=Tryz.underlying9
 a9:=Tryz.isAgg9
 z9:=Tryz.sizeOf9
 v9:=Tryz.zeroValue9
 t28:=Tryz.underlying40
 a28:=Tryz.isAgg40
 z28:=Tryz.sizeOf40
 v28:=Tryz.zeroValue40
 t46:=Tryz.underlying142
 a46:=Tryz.isAgg142
 z46:=Tryz.sizeOf142
 v46:=Tryz.zeroValue142
 t51:=Tryz.underlying175
 a51:=Tryz.isAgg175
 z51:=Tryz.sizeOf175
 v51:=Tryz.zeroValue175
 t53:=Tryz.underlying177
 a53:=Tryz.isAgg177
 z53:=Tryz.sizeOf177
 v53:=Tryz.zeroValue177
 t131:=Tryz.underlying172
 a131:=Tryz.isAgg172
 z131:=Tryz.sizeOf172
 v131:=Tryz.zeroValue172
 t182:=Tryz.underlying166
 a182:=Tryz.isAgg166
 z182:=Tryz.sizeOf166
 v182:=Tryz.zeroValue166
 t183:=Tryz.underlying167
 a183:=Tryz.isAgg167
 z183:=Tryz.sizeOf167
 v183:=Tryz.zeroValue167
 t218:=Tryz.underlying210
 a218:=Tryz.isAgg210
 z218:=Tryz.sizeOf210
 v218:=Tryz.zeroValue210
 t222:=Tryz.underlying214
 a222:=Tryz.isAgg214
 z222:=Tryz.sizeOf214
 v222:=Tryz.zeroValue214
 t228:=Tryz.underlying242
 a228:=Tryz.isAgg242
 z228:=Tryz.sizeOf242
 v228:=Tryz.zeroValue242
 t229:=Tryz.underlying108
 a229:=Tryz.isAgg108
 z229:=Tryz.sizeOf108
 v229:=Tryz.zeroValue108 }
open Go.Sort Go.RowKit in
theorem Tryz.slices_Sort_int (blk off cap:Nat) (zs:List Int) (w:World) (hH:Holds (Value.int .i64) w blk off zs.toArray) (dr:blk < w.heap.size) (cI:zs.length < 4611686018427387904) :
  Calls Tryz.prog 105 #[.slice (some ⟨blk,off,none⟩) zs.length cap] w fun e w' =>
   e=.returned (.tuple #[])/\∃ n os,w'=grow (putRow (Value.int .i64) (Sort.ahead w n) blk off (zs.mergeSort fun x y=>decide (x<=y)).toArray) os:=Any.slices_Sort_int Tryz.IU blk off cap zs w hH dr cI
def Tryz.Vt:Go.Shelf.Ren:=⟨fun | 157=>216 | 229=>247 | 199=>248 | 261=>274 | 311=>290 | 312=>291 | n=>n,fun | 9=>9 | 31=>22 | 3=>3 | 5=>5 | 4=>4 | 119=>244 | 0=>0 | 40=>246 | 152=>259 | 21=>21 | 154=>261 | 51=>175 | 141=>263 | 196=>278 | 193=>275 | 198=>281 | 49=>279 | 194=>276 | 201=>284 | 226=>290 | 46=>142 | 227=>291 | n=>n,fun | 0=>0 | 6=>2 | n=>n⟩
def Tryz.F2:Go.Shelf.Ren:=⟨fun | 157=>216 | 229=>247 | 199=>248 | 261=>274 | 311=>290 | 312=>291 | n=>n,fun | 9=>9 | 31=>22 | 3=>3 | 5=>5 | 4=>4 | 119=>244 | 0=>0 | 40=>246 | 152=>259 | 21=>21 | 154=>261 | 51=>175 | 141=>263 | 196=>278 | 193=>275 | 198=>281 | 49=>279 | 194=>276 | 201=>284 | 226=>290 | 46=>142 | 227=>291 | n=>n,fun | 0=>0 | 6=>2 | n=>n⟩
theorem Tryz.Pt:Go.Proofs.LaysM.n157 Tryz.prog Tryz.F2:={
 mixed:=by kernel_rfl
 f157:=Tryz.func216.trans (congrArg some (by kernel_rfl))
 f199:=Tryz.func248.trans (congrArg some (by kernel_rfl))
 f229:=Tryz.func247.trans (congrArg some (by kernel_rfl))
 f261:=Tryz.func274.trans (congrArg some (by kernel_rfl))
 f311:=Tryz.func290.trans (congrArg some (by kernel_rfl))
 f312:=Tryz.func291.trans (congrArg some (by kernel_rfl))
 t0:=Tryz.underlying0
 a0:=Tryz.isAgg0
 z0:=Tryz.sizeOf0
 v0:=Tryz.zeroValue0
 t3:=Tryz.underlying3
 a3:=Tryz.isAgg3
 z3:=Tryz.sizeOf3
 v3:=Tryz.zeroValue3
 t4:=Tryz.underlying4
 a4:=Tryz.isAgg4
 z4:=Tryz.sizeOf4
 v4:=Tryz.zeroValue4
 t5:=Tryz.underlying5
 a5:=Tryz.isAgg5
 z5:=Tryz.sizeOf5
 v5:=Tryz.zeroValue5
 t9:=Tryz.underlying9
 a9:=Tryz.isAgg9
 z9:=Tryz.sizeOf9
 v9:=Tryz.zeroValue9
 t21:=Tryz.underlying21
 a21:=Tryz.isAgg21
 z21:=Tryz.sizeOf21
 v21:=Tryz.zeroValue21
 t31:=Tryz.underlying22
 a31:=Tryz.isAgg22
 z31:=Tryz.sizeOf22
 v31:=Tryz.zeroValue22
 t40:=Tryz.underlying246
 a40:=Tryz.isAgg246
 z40:=Tryz.sizeOf246
 v40:=Tryz.zeroValue246
 t46:=Tryz.underlying142
 a46:=Tryz.isAgg142
 z46:=Tryz.sizeOf142
 v46:=Tryz.zeroValue142
 t49:=Tryz.underlying279
 a49:=Tryz.isAgg279
 z49:=Tryz.sizeOf279
 v49:=Tryz.zeroValue279
 t51:=Tryz.underlying175
 a51:=Tryz.isAgg175
 z51:=Tryz.sizeOf175
 v51:=Tryz.zeroValue175
 t119:=Tryz.underlying244
 a119:=Tryz.isAgg244
 z119:=Tryz.sizeOf244
 t141:=Tryz.underlying263
 a141:=Tryz.isAgg263
 z141:=Tryz.sizeOf263
 v141:=Tryz.zeroValue263
 t152:=Tryz.underlying259
 a152:=Tryz.isAgg259
 z152:=Tryz.sizeOf259
 v152:=Tryz.zeroValue259
 t154:=Tryz.underlying261
 a154:=Tryz.isAgg261
 z154:=Tryz.sizeOf261
 v154:=Tryz.zeroValue261
 t193:=Tryz.underlying275
 a193:=Tryz.isAgg275
 z193:=Tryz.sizeOf275
 v193:=Tryz.zeroValue275
 t194:=Tryz.underlying276
 a194:=Tryz.isAgg276
 z194:=Tryz.sizeOf276
 v194:=Tryz.zeroValue276
 t196:=Tryz.underlying278
 a196:=Tryz.isAgg278
 z196:=Tryz.sizeOf278
 v196:=Tryz.zeroValue278
 t198:=Tryz.underlying281
 a198:=Tryz.isAgg281
 z198:=Tryz.sizeOf281
 v198:=Tryz.zeroValue281
 t201:=Tryz.underlying284
 a201:=Tryz.isAgg284
 z201:=Tryz.sizeOf284
 v201:=Tryz.zeroValue284
 t226:=Tryz.underlying290
 a226:=Tryz.isAgg290
 z226:=Tryz.sizeOf290
 v226:=Tryz.zeroValue290
 t227:=Tryz.underlying291
 a227:=Tryz.isAgg291
 z227:=Tryz.sizeOf291
 v227:=Tryz.zeroValue291
 g0:=by kernel_rfl
 g6:=by kernel_rfl
 i0:=by kernel_rfl
 i3:=by kernel_rfl
 i4:=by kernel_rfl
 i5:=by kernel_rfl
 i9:=by kernel_rfl
 i21:=by kernel_rfl
 i31:=by kernel_rfl
 i40:=by kernel_rfl
 i46:=by kernel_rfl
 i49:=by kernel_rfl
 i51:=by kernel_rfl
 i141:=by kernel_rfl
 i152:=by kernel_rfl
 i154:=by kernel_rfl
 i193:=by kernel_rfl
 i194:=by kernel_rfl
 i196:=by kernel_rfl
 i198:=by kernel_rfl
 i201:=by kernel_rfl
 i226:=by kernel_rfl
 i227:=by kernel_rfl
 m0:=by kernel_rfl
 m6:=by kernel_rfl }
open Go.RowKit Go.Lib in
theorem Tryz.strings_Fields_laid (s:ByteArray) (w:World) (hs:s.size < 4294967281) (TJ:∀ (j:Nat) b,s.data.toList[j]?=some b->b.toNat < 128) (AM:Lib.TabIs Tryz.prog w "strings.asciiSpace" .u8 Lib.asciiSpaceTab) :
  Calls Tryz.prog 216 #[.string s] w fun e w' =>
   e=.returned (.slice (some ⟨w.heap.size,0,none⟩) (Lib.fields s.data.toList).length (Lib.fields s.data.toList).length)/\w'=w.alloc (.cells ((Lib.fields s.data.toList).map fun l=>Value.string ⟨l.toArray⟩).toArray 9):=Any.strings_Fields_laid Tryz.Pt s w hs TJ AM
def Tryz.Ef:Go.Shelf.Ren:=⟨fun | 20=>106 | n=>n,fun | 22=>40 | 3=>3 | 4=>4 | 0=>0 | n=>n,fun | n=>n⟩
theorem Tryz.DL:Go.Proofs.Lays2.n20 Tryz.prog Tryz.Ef:={
 mixed:=by kernel_rfl
 f20:=Tryz.func106.trans (congrArg some (by kernel_rfl))
 t0:=Tryz.underlying0
 a0:=Tryz.isAgg0
 z0:=Tryz.sizeOf0
 v0:=Tryz.zeroValue0
 t3:=Tryz.underlying3
 a3:=Tryz.isAgg3
 z3:=Tryz.sizeOf3
 v3:=Tryz.zeroValue3
 t4:=Tryz.underlying4
 a4:=Tryz.isAgg4
 z4:=Tryz.sizeOf4
 v4:=Tryz.zeroValue4
 t22:=Tryz.underlying40
 a22:=Tryz.isAgg40
 z22:=Tryz.sizeOf40
 v22:=Tryz.zeroValue40
 i3:=by kernel_rfl }
open Go.RowKit Go.Lib Go.Sort in
theorem Tryz.slices_Compact_int (blk off cap:Nat) (zs:List Int) (w:World) (hH:Holds (Value.int .i64) w blk off zs.toArray) (cI:zs.length<=9223372036854775807) (O2:zs.length<=cap) :
  Calls Tryz.prog 106 #[.slice (some ⟨blk,off,none⟩) zs.length cap] w fun e w'=>e=.returned (.slice (some ⟨blk,off,none⟩) (Lib.compact zs).length cap)/\∃ q,w'=putRow (Value.int .i64) (Sort.ahead w q) blk off (Lib.compact zs++List.replicate (zs.length - (Lib.compact zs).length) 0).toArray:=Any.slices_Compact_int Tryz.DL blk off cap zs w hH cI O2
open Go.RowKit Go.Lib Go.Sort in
theorem Tryz.slices_Compact_int_empty (a:Option Addr) (cap:Nat) (w:World) :
  Calls Tryz.prog 106 #[.slice a 0 cap] w fun e w'=>e=.returned (.slice a 0 cap)/\w'=w:=Any.slices_Compact_int_empty Tryz.DL a cap w
open Go.RowKit Go.Sort in
theorem Tryz.slices_Sort_int_none (p:Option Addr) (cap:Nat) (w:World) :
  Calls Tryz.prog 105 #[.slice p 0 cap] w fun e w'=>e=.returned (.tuple #[])/\w'=w:=Any.slices_Sort_int_none Tryz.IU p cap w
end Go.Proofs
set_option maxHeartbeats 1000000
namespace Go.Xg
open Go.RowKit Go.Xw Go.Proofs
attribute [local irreducible] GW GL GO YG GC GA aS aW
instance:C9 Tryz.prog 143 5:=C9.mk' (ak)
instance:Ch Tryz.prog 225:=Ch.mk' (e:=227) (ak) (ak)
theorem Hp (g:Value):GF Tryz.prog 263 [.loc 0 0] [.box 227 [.loc 0 0,.v g]] (.tup []) [.box 227 [.loc 0 0,.v g]]:=by
 refine ai Tryz.func263 Tryz.ntmps263 ?_;exact fP
theorem rC (s:ah) (n:Nat) (a:Option Addr) (c:Nat) (rows:List (List GV)) (hn:rows.length=n) (hb:n+s.length<=140737488355328) :
  GC Tryz.prog 229 [.loc 0 0,.v (sv s)] [.box 227 [.loc 0 0,.v (.slice a n c)],.vech 5 1 rows (.slice a n c)] (fun g aH=>(∃ x,g=.tup [.v (ii s.length),x])/\∃ a c,aH=[.box 227 [.loc 0 0,.v (.slice a (n+s.length) c)],.vech 5 1 (rows++bZ s) (.slice a (n+s.length) c)]):=by
 subst hn;have h:=Hp (.slice a rows.length c)
 cases s with
 | nil =>
  refine ai Tryz.func229 Tryz.ntmps229 ?_;refine U [0] (h) ?_;refine GL.Vy 1 rfl rfl rfl (by simpa using hb) ?_;refine bI ?_;refine ab ?_;refine y9 ?_;exact ⟨⟨_,rfl⟩,a,c,by simp [bZ]⟩
 | cons x r =>
  generalize hs:x::r=s at *
  have bK:s.isEmpty=false:=by rw [<-hs];rfl
  clear hs;refine ai Tryz.func229 Tryz.ntmps229 ?_;refine U [0] (h) ?_;refine GL.Vz 1 rfl rfl rfl (by first | rfl | assumption) (by assumption) ae ?_;intro a2 c2;refine bI ?_;refine ab ?_;refine y9 ?_;exact ⟨⟨_,rfl⟩,a2,c2,rfl⟩
theorem OB (str:ah) (a:Option Addr) (c:Nat) (h0:str≠[]) (hb:str.length<=140737488355328) :
  GF Tryz.prog 230 [.loc 0 0] [.box 227 [.loc 0 0,.v (.slice a str.length c)],.vech 5 1 (bZ str) (.slice a str.length c)] (.v (sv str)) [.box 227 [.loc 0 0,.v (.slice a str.length c)],.lost]:=by
 have hlen:(bZ str).length=str.length:=by simp [bZ]
 have hp:Nat.blt 0 str.length=true:=by simpa using List.length_pos_iff.2 h0
 have bK:str.isEmpty=false:=by cases str with | nil=>exact absurd rfl h0 | cons _ _=>rfl
 refine ai Tryz.func230 Tryz.ntmps230 ?_;refine GW.draw (.q 0 (.q 1 (.q 2 (.q 3 (.q 4 (.q 5 (.q 6 (.q 7 (.q 8 (.q 9 (.a 10 (.q 11 .nil)))))))))))) (by kernel_rfl) (by kernel_rfl) ?_;refine aj ?_;refine La ?_;refine aj ?_;exact av
end Go.Xg
namespace Go.Xg
open Go.RowKit Go.Xw Go.Proofs
open Go.Xp (bt)
theorem lT.oW {P:Program} {f:FuncId} {vs:List Value} {w:World} {R:Value->World->Prop} (h:Calls P f vs.toArray w fun e w'=>∃ v,e=.returned v/\R v w'):lT P f vs w R:=h
theorem GW.builder {Q:dP} {fr:List GV} {r1 r2:Nat} {rest:Code} {t8 t56 t57 t5:Tmp} {T1 T2 T3 T4 T5:TypeId} {p1 p2 p3:String} {a1 a2 a3:Array Edge} (n:Nat)
  (h8:jj fr t8=true) (WQ:jj fr t56=true) (bK:Nat.beq t8 t56=false) (X6:Nat.beq t5 t8=false) (hn:cq fr t5=.v (ii (n:Nat))) (hb:n<=281474976710656)
  (h:∀ a c,GW Tryz.prog 0 rest Q (bj (bj (bj fr t8 (.loc 0 0)) t56 (.v (ii (n:Nat)))) t57 (.v (.tuple #[]))) [.box 227 [.loc 0 0,.v (.slice a 0 c)],.vech 5 1 [] (.slice a 0 c)]) :
  GW Tryz.prog 0 (.seq (.region r1 [(⟨some t8,.alloc 227,T1,p1,a1,none⟩:Oper)].toArray false) (.seq (.region r2 [(⟨some t56,.move (.tmp t5),T2,p2,a2,none⟩:Oper),⟨some t57,.call ⟨.value (.func 228),[Operand.tmp t8,.tmp t56].toArray,#[T3,T4]⟩,T5,p3,a3,none⟩].toArray false) rest)) Q fr []:=fun B K β w l hm hI hF=>by
 have FF:t8≠t56:=by intro e;subst e;simp at bK
 have QT:t5≠t8:=by intro e;subst e;simp at X6
 have i8:=lY hF h8;have i56:=lY hF WQ;refine W.seq (W.region (WL.alloc (t:=227) fun b w1 rJ=>WL.nil ?_));refine W.seq (W.region (WL.v R.mv (WL.call (f:=228) (Ck:=[.pointer (some ⟨b,0,none⟩),.int .i64 n]) ?_ (R:=fun x w2=>x=.tuple #[]/\(Lib.BuilderAt 227 5 b b (.pointer (some ⟨b,0,none⟩)) [] w2/\Below b w1 w2)) ?_ fun x w2 hx=>WL.nil ?_)))
 ·have Zb:FR K (ep β 0 (.fix b)) (bj fr t8 (.loc 0 0)) (put l (some t8) (.pointer (some ⟨b,0,none⟩))) :=
   (hF.mono (ca.refl K) (fM (i:=0) (x:=.fix b) (by rw [hI.out 0 (Nat.le_refl _)];trivial))).eK t8 (.loc 0 0 b ba)
  have Z9:jj (eK l t8 (.pointer (some ⟨b,0,none⟩))) t56=true:=lY Zb (t:=t56) (by rw [IL];exact WQ)
  have e5:nth (eK l t8 (.pointer (some ⟨b,0,none⟩))) t5=.int .i64 n:=by
   rw [nz QT];exact Rel.dR (by rw [<-hn];exact hF.nth t5)
  show [nth (eK (eK l t8 (.pointer (some ⟨b,0,none⟩))) t56 (nth (eK l t8 (.pointer (some ⟨b,0,none⟩))) t5)) t8,nth (eK (eK l t8 (.pointer (some ⟨b,0,none⟩))) t56 (nth (eK l t8 (.pointer (some ⟨b,0,none⟩))) t5)) t56]=_;rw [nz FF,r9 i8,r9 Z9,e5]
 ·refine lT.oW (Calls.mono (Tryz.Builder_Grow_fresh b b n w1 (Nat.le_refl _) rJ.blk (by have:=rJ.size;omega) hb) ?_);rintro e w' ⟨h1,h2⟩;exact ⟨_,h1,rfl,h2⟩
 ·obtain ⟨rfl,⟨_,v,kP,eS,rf⟩,Ft⟩:=hx;have eS:gk w2 b 5 1 v 0 []:=eS;obtain ⟨a,c,rfl⟩:=eS.shape;have tV:=rJ.fresh;have gq:Ext gP w w2:=⟨Ft.os.trans rJ.ext.os,Ft.tape.trans rJ.ext.tape,Ft.output.trans rJ.ext.output,Nat.le_trans rJ.ext.size Ft.size,fun k hk hs=>(Ft.block k ae).trans (rJ.ext.block k hk hs)⟩;have nG:=hI.same gq
  have bR:∀ i,β i=.no:=fun i=>hI.out i (Nat.zero_le _)
  have TE:∀ o,K b o=none:=fun o=>by
   cases hk:K b o with
   | none=>rfl
   | some g=>have:=hI.fz.lt hk;omega
  have Xb:=hI.ext.size;have aao:=hI.tab.pow.lt;have mi:=hI.tab.spc.lt;have TW:cX β (ep β ([]:List Ob).length (.fix b)):=fM (by rw [bR];trivial)
  have Fo:=nG.Qs (x:=.fix b) (y:=.box 227 [.loc 0 0,.v (.slice a 0 c)]) (fun b' bg=>by
   cases bg
   exact ⟨fun i hi=>(by rw [bR] at hi;cases hi),by omega,by omega,by omega⟩) (by
   refine ⟨b,[.pointer (some ⟨b,0,none⟩),.slice a 0 c],ba,kP,.cons (.loc 0 0 b ba) (.cons (.v _) .nil),TE⟩) TW
  have BC:gk w2 0 5 1 (.slice a 0 c) 0 []:=eS.base (Nat.zero_le _)
  have QJ:∀ g,(Value.slice a 0 c).ownBlock=some g->b < g:=fun g hg=>by
   have h1:=(eS.lt hg).1
   have h2:g≠b:=fun e=>rf (by rw [hg,e])
   omega
  have zu:ep β ([]:List Ob).length (.fix b) 1=.no:=by rw [bx (by decide)];exact bR 1
  have AK:cX (ep β ([]:List Ob).length (.fix b)) (ep (ep β ([]:List Ob).length (.fix b)) 1 (.gr (.slice a 0 c) 0)):=fM (by rw [zu];trivial)
  have Zf:=Fo.Qs (x:=.gr (.slice a 0 c) 0) (y:=.vech 5 1 [] (.slice a 0 c)) (fun g hg=>by
   have:=QJ g hg;refine ⟨fun i hi=>?_,by omega,by omega,by omega⟩
   rcases lD hi with h1 | h1
   ·cases h1;omega
   ·rw [bR] at h1;cases h1) (by
   refine ⟨[],ba,BC,aV.nil,(fun r hr=>by cases hr),fun g hg o=>?_⟩
   cases hk:K g o with
   | none=>rfl
   | some y=>have:=hI.fz.lt hk;have:=QJ g hg;omega) AK
  refine h a c B K _ w2 _ hm Zf ?_;have Zc:=(hF.mono (ca.refl K) TW).mono (ca.refl K) AK;refine ((Zc.eK t8 (.loc 0 0 b ?_)).eK t56 ?_).eK t57 (.v _)
  ·rw [bx (by decide)];exact ba
  ·have e5:nth (eK l t8 (.pointer (some ⟨b,0,none⟩))) t5=.int .i64 n:=by
    rw [nz QT];exact Rel.dR (by rw [<-hn];exact hF.nth t5)
   rw [show ev (put l (some t8) (.pointer (some ⟨b,0,none⟩))) (.tmp t5)=.int .i64 n from e5];exact .v _
end Go.Xg
namespace Go.Xg
open Go.RowKit Go.Xw Go.Proofs
open Go.Xp (bt)
attribute [local irreducible] GW GL GO YG GC GA aS aW
theorem tP (a b:ah):bZ (a++b)=bZ a++bZ b:=by simp [bZ]
def mo (l:List ah):Nat:=(l.map List.length).sum
theorem DG:∀ (r:List ah) (x:ah),(bt (x::r)).length=mo (x::r)+2 * r.length
 | [],x=>by simp [bt,mo]
 | y::r,x=>by
  have:=DG r y;simp only [bt,mo,length_append,List.map_cons,sum_cons,List.flatMap_cons,length_cons] at this |-;omega
def gj (l:List ah):ah:=l.flatMap fun y=>44::32::y
theorem Ms (a b:List ah):gj (a++b)=gj a++gj b:=by unfold gj;rw [List.flatMap_append]
theorem R4 (l:List ah) (k:Nat):(gj (l.take k)).length<=(gj l).length:=by
 have:gj l=gj (l.take k)++gj (l.drop k):=by rw [<-Ms,List.take_append_drop]
 rw [this,length_append];omega
theorem Tv (y:ah):gj [y]=[44,32]++y:=by simp [gj]
theorem Pj (x:ah) (r:List ah):bt (x::r)=x++gj r:=rfl
theorem Lp (l:List ah) (hb:(bt l).length<=1099511627776) (hl:l.length<=1099511627776):GF Tryz.prog 196 [strs l,.v (sv [44,32])] [] (.v (sv (bt l))) []:=by
 match l,hb,hl with
 | [],hb,hl =>
  refine ai Tryz.func196 Tryz.ntmps196 ?_;exact ao
 | [x],hb,hl =>
  have hr:([x].map fun s=>[GV.v (sv s)])[0]?=some [.v (sv x)]:=rfl
  have e:bt [x]=x:=by simp [bt]
  rw [e];refine ai Tryz.func196 Tryz.ntmps196 ?_;exact ao
 | x::y::r,hb,hl =>
  have rj:((x::y::r).map fun s=>[GV.v (sv s)])[0]?=some [.v (sv x)]:=rfl;have hlen:=DG (y::r) x
  have zF:x.length<=1099511627776:=by simp only [bt,length_append] at hb;omega
  generalize hL:(x::y::r)=l at *
  have jh:2<=l.length:=by rw [<-hL];simp
  have dO:(l.map fun s=>[GV.v (sv s)]).length=l.length:=by simp
  have zu:Nat.blt 1 (l.map fun s=>[GV.v (sv s)]).length=true:=by rw [dO];simpa [Nat.blt] using jh
  have Dx:(((l.map fun s=>[GV.v (sv s)]).length:Int)==0)=false:=by rw [dO];simp only [beq_eq_false_iff_ne,ne_eq];omega
  have FE:(((l.map fun s=>[GV.v (sv s)]).length:Int)==1)=false:=by rw [dO];simp only [beq_eq_false_iff_ne,ne_eq];omega
  have hq:decide ((9223372036854775807:Int) / (((l.map fun s=>[GV.v (sv s)]).length:Int) - 1)<=2)=false:=by
   rw [dO]
   have h3:(3:Int)<=9223372036854775807 / ((l.length:Int) - 1):=by
    rw [Int.le_ediv_iff_mul_le ae];omega
   simp;omega
  refine ai Tryz.func196 Tryz.ntmps196 ?_;apply GL.q
  ·exact YG.mul (a:=2) (b:=((l.map fun s=>[GV.v (sv s)]).length:Int) - 1) rfl rfl ae
  refine bT ?_;refine ab ?_;refine GW.range (l.map fun s=>[GV.v (sv s)]).length (fun k fr Γ=>fr=[strs l,.v (sv [44,32]),.aaF,.aaF,.aaF,.v (ii (0+2 * (((l.map fun s=>[GV.v (sv s)]).length:Int) - 1)+((mo (l.take k):Nat):Int))),.aaF,.aaF,.aaF,.aaF,.aaF,.aaF,.aaF,.aaF,.aaF,.aaF,.aaF,.aaF,.aaF,.aaF,.aaF,.aaF,.aaF,.aaF,.aaF,.aaF,.aaF,.aaF,.aaF,.aaF,.aaF,.aaF,.aaF,.aaF,.aaF,.aaF,.aaF,.aaF,.aaF,strs l,.v (ii ((l.map fun s=>[GV.v (sv s)]).length:Int)),.v (ii (k:Nat)),.aaF,.aaF,.aaF,.aaF,.aaF,.aaF,.aaF,.aaF,.aaF,.aaF,.aaF,.aaF,.aaF,.aaF,.aaF,.aaF,.aaF,.aaF,.aaF,.aaF,.aaF,.aaF,.aaF,.aaF,.aaF,.aaF,.aaF,.aaF,.aaF,.aaF,.aaF,.aaF,.aaF]/\Γ=[]) ?_ ae ?_ ?_ ?_
  ·refine ⟨_,_,Wk.aw (bU:=[strs l,.v (sv [44,32]),.aaF,.aaF,.aaF,.v (ii (0+2 * (((l.map fun s=>[GV.v (sv s)]).length:Int) - 1))),.aaF,.aaF,.aaF,.aaF,.aaF,.aaF,.aaF,.aaF,.aaF,.aaF,.aaF,.aaF,.aaF,.aaF,.aaF,.aaF,.aaF,.aaF,.aaF,.aaF,.aaF,.aaF,.aaF,.aaF,.aaF,.aaF,.aaF,.aaF,.aaF,.aaF,.aaF,.aaF,.aaF,strs l,.v (ii ((l.map fun s=>[GV.v (sv s)]).length:Int)),.v (ii (0:Nat)),.aaF,.aaF,.aaF,.aaF,.aaF,.aaF,.aaF,.aaF,.aaF,.aaF,.aaF,.aaF,.aaF,.aaF,.aaF,.aaF,.aaF,.aaF,.aaF,.aaF,.aaF,.aaF,.aaF,.aaF,.aaF,.aaF,.aaF,.aaF,.aaF,.aaF,.aaF,.aaF,.aaF]) al,?_,rfl⟩;rw [List.take_zero,show ((mo []:Nat):Int)=0 from rfl,Int.add_zero]
  ·rintro k _ _ ⟨rfl,rfl⟩;exact ⟨rfl,rfl,rfl⟩
  ·rintro k _ _ aq ⟨rfl,rfl⟩;rw [dO] at aq
   have cP:l[k]?=some l[k]:=by simp [aq]
   have pA:(l.map fun s=>[GV.v (sv s)])[k]?=some [.v (sv l[k])]:=by rw [getElem?_map,cP];rfl
   have hs:mo (l.take (k+1))=mo (l.take k)+l[k].length:=by unfold mo;rw [take_add_one,cP,map_append,List.sum_append];simp only [Option.toList,List.map_cons,map_nil,sum_cons,List.sum_nil,Nat.add_zero]
   have hle:mo (l.take (k+1))<=mo l:=by
    have:mo l=mo (l.take (k+1))+mo (l.drop (k+1)):=by
     unfold mo;rw [<-List.sum_append,<-map_append,List.take_append_drop]
    omega
   generalize l[k]=z at *;rw [show (0+2 * (((l.map fun s=>[GV.v (sv s)]).length:Int) - 1)+((mo (l.take (k+1)):Nat):Int))=0+2 * (((l.map fun s=>[GV.v (sv s)]).length:Int) - 1)+((mo (l.take k):Nat):Int)+(z.length:Int) by rw [hs];omega]
   have hov:decide (9223372036854775807 - (0+2 * (((l.map fun s=>[GV.v (sv s)]).length:Int) - 1)+((mo (l.take k):Nat):Int)) < (z.length:Int))=false:=by
    simp only [decide_eq_false_iff_not];omega
   refine ab ?_;exact ⟨rfl,rfl,_,_,Wk.aw al,rfl,rfl⟩
  ·rintro _ _ ⟨rfl,rfl⟩;rw [dO,take_length]
   have hN:(0+2 * ((l.length:Int) - 1)+((mo l:Nat):Int))=(((bt l).length:Nat):Int):=by
    have:(y::r).length+1=l.length:=by rw [<-hL];simp
    omega
   rw [hN];refine aD ?_
   refine GW.builder (bt l).length rfl rfl rfl rfl rfl ae fun a c=>?_
   refine ab ?_;refine bJ [0,1] (rC x 0 a c [] rfl ae) ?_;rintro _ _ ⟨⟨u1,rfl⟩,a1,c1,rfl⟩;refine cj ?_;refine ab ?_
   have key:∀ k,(x++gj ((y::r).take k)).length<=1099511627776:=fun k=>by
    have h1:=R4 (y::r) k;rw [<-hL,Pj,length_append] at hb;rw [length_append];omega
   refine GW.range ((y::r).map fun s=>[GV.v (sv s)]).length (fun k fr Γ=>∃ acc a c,fr=[.aaF,.v (sv [44,32]),.aaF,.aaF,.aaF,.aaF,.aaF,.aaF,.loc 0 0,.aaF,.aaF,.aaF,.aaF,.aaF,.aaF,.aaF,.aaF,.aaF,.aaF,.aaF,.aaF,.aaF,.aaF,.aaF,.aaF,.aaF,.aaF,.aaF,.aaF,.aaF,.aaF,.aaF,.aaF,.aaF,.aaF,.aaF,.aaF,.aaF,.aaF,.aaF,.aaF,.aaF,.aaF,.aaF,.aaF,.aaF,.aaF,.aaF,.aaF,.aaF,.aaF,.aaF,.aaF,.aaF,.aaF,.aaF,.aaF,.aaF,.aaF,.aaF,.aaF,.aaF,.aaF,strs (y::r),.v (ii (((y::r).map fun s=>[GV.v (sv s)]).length:Int)),.v (ii (k:Nat)),.aaF,.aaF,.aaF,.aaF,.aaF,.aaF,.aaF,.aaF,.aaF]/\acc=x++gj ((y::r).take k)/\Γ=[.box 227 [.loc 0 0,.v (.slice a acc.length c)],.vech 5 1 (bZ acc) (.slice a acc.length c)]) ?_ ?_ ?_ ?_ ?_
   ·rw [show 0+x.length=x.length from Nat.zero_add _];subst hL;exact ⟨_,_,Wk.aw al,x,a1,c1,rfl,by simp [gj],rfl⟩
   ·have:((y::r).map fun s=>[GV.v (sv s)]).length+1=l.length:=by rw [<-hL];simp
    omega
   ·rintro k _ _ ⟨acc,a,c,rfl,_,rfl⟩;exact ⟨rfl,rfl,rfl⟩
   ·rintro k _ _ aq ⟨acc,a,c,rfl,kE,rfl⟩
    have aq:k < (y::r).length:=by simpa using aq
    have cP:(y::r)[k]?=some (y::r)[k]:=by simp [aq]
    have pA:((y::r).map fun s=>[GV.v (sv s)])[k]?=some [.v (sv (y::r)[k])]:=by rw [getElem?_map,cP];rfl
    have bq:x++gj ((y::r).take (k+1))=(acc++[44,32])++(y::r)[k]:=by
     rw [take_add_one,cP,Ms,<-List.append_assoc,<-kE,List.append_assoc]
     congr 1
     exact Tv _
    have tW:=key k;have rb:=key (k+1);rw [bq] at rb;rw [<-kE] at tW;simp only [length_append,length_cons,length_nil] at rb;generalize (y::r)[k]=z at *
    have VU:(bZ acc).length=acc.length:=by simp [bZ]
    refine ab ?_;refine bJ [0,1] (rC [44,32] acc.length a c (bZ acc) VU (by simp only [length_cons,length_nil];omega)) ?_;rintro _ _ ⟨⟨u1,rfl⟩,a2,c2,rfl⟩;refine cj ?_;rw [show bZ acc++[[GV.v (.int .u8 ((44:UInt8).toNat:Int))],[GV.v (.int .u8 ((32:UInt8).toNat:Int))]]=bZ (acc++[44,32]) by simp [bZ],show acc.length+([44,32]:ah).length=(acc++[44,32]).length by simp];refine ab ?_;refine bJ [0,1] (rC z (acc++[44,32]).length a2 c2 (bZ (acc++[44,32])) (by simp [bZ]) (by simp only [length_append,length_cons,length_nil];omega)) ?_;rintro _ _ ⟨⟨u2,rfl⟩,a3,c3,rfl⟩;refine cj ?_
    have ez:List.length (acc++[44,32])+List.length z=List.length ((acc++[44,32])++z):=by simp only [length_append]
    rw [<-tP,ez];refine ab ?_;exact ⟨rfl,rfl,_,_,Wk.aw al,(acc++[44,32])++z,a3,c3,rfl,bq.symm,rfl⟩
   ·rintro _ _ ⟨acc,a,c,rfl,kE,rfl⟩
    have hj:bt l=acc:=by
     rw [kE,<-hL,show ((y::r).map fun s=>[GV.v (sv s)]).length=(y::r).length by simp,take_length];rfl
    rw [hj] at hb hlen |-
    have bK:acc≠[]:=by
     intro h0;rw [h0] at hlen;simp at hlen
    have Yj:=OB acc a c bK ae;refine ab ?_;refine U [0,1] (Yj) ?_;exact ao
end Go.Xg
set_option maxHeartbeats 4000000
namespace Go.Xg
open Go.RowKit Go.Xw Go.Proofs
open Go.Im
section
variable {P:Program} {m:Nat} {fr:List GV} {Γ:List Ob}
theorem Wk.keep {n j E k:Nat} {rows:List (List GV)} {x:Value} (hm:m<=n) (hnj:n<=j) (hl:zM n (Γ.take n)=true) (hlen:(Γ.take n).length=n) (br:Γ[j]?=some (.vech E k rows x)) :
  Wk m fr Γ (Te n fr) (Γ.take n++[.vech E k rows x]):=fun B K β w l hB hI hF=>by
 have h:=hI.cut (n:=n) ae hl;obtain ⟨xs,o1,o2,o3,o4,o5⟩:=hI.ob j _ br
 have QM:∀ b,(Bk.gr x rows.length).blk=some b->(β j).blk=some b:=fun b hb=>by rw [o1];exact hb
 have O3:eX (below n) β n=.no:=sc (yy (Nat.le_refl n));have hold:cX (eX (below n) β) (ep (eX (below n) β) n (.gr x rows.length)):=fM (by rw [O3];trivial)
 have bR:∀ b,(β j).blk=some b->∀ i,(eX (below n) β i).blk≠some b:=fun b hb i hi=>by
  by_cases gh:i < n
  ·rw [hY (yz gh)] at hi;have:=hI.dis i j b hi hb;omega
  ·rw [sc (yy ae)] at hi;cases hi
 refine ⟨K,ep (eX (below n) β) n (.gr x rows.length),?_,(hF.res).mono (ca.refl K) hold⟩;refine ⟨h.ext,h.kle,h.ble.trans hold,h.loc,h.fz,fun i z hi=>?_,fun i hi=>?_,fun i i' b hi hj=>?_,fun i b hi=>?_,h.kn,⟨h.tab.le,h.tab.pow,h.tab.spc,fun i b hi=>?_⟩⟩
 ·by_cases wY:i < n
  ·rw [getElem?_append_left ae] at hi;exact (h.ob i z hi).ext (S:=gP) (Ext.refl w) (fun _ _ h=>h) (ca.refl K) hold (bx ae) (fun _ _ _ h=>h)
  ·have:i=n:=by have:=(List.getElem?_eq_some_iff.1 hi).1;rw [length_append,hlen,List.length_singleton] at this;omega
   subst this;rw [List.getElem?_append_right ae,hlen,Nat.sub_self] at hi;cases hi;refine ⟨xs,ba,o2,⟨o3.1,fun a v g h1 h2=>(o3.2 a v g h1 h2).pc ?_⟩,o4,o5⟩;obtain ⟨r,fS,c6⟩:=List.mem_flatten.1 (mem_of_getElem? h2);exact (o4 r fS).2 g c6
 ·rw [length_append,hlen,List.length_singleton] at hi;rw [bx ae];exact sc (yy ae)
 ·by_cases h1:i=n <;> by_cases h2:i'=n
  ·omega
  ·subst h1;rw [ba] at hi;rw [bx h2] at hj;exact absurd hj (bR b (QM b hi) i')
  ·subst h2;rw [ba] at hj;rw [bx h1] at hi;exact absurd hi (bR b (QM b hj) i)
  ·rw [bx h1] at hi;rw [bx h2] at hj;exact h.dis i i' b hi hj
 ·rcases lD hi with h1 | h1
  ·exact hI.own j b (QM b h1)
  ·exact h.own i b h1
 ·rcases lD hi with h1 | h1
  ·exact hI.tab.free j b (QM b h1)
  ·exact h.tab.free i b h1
end
theorem Inv.renew {B:Bs} {K:Fz} {β:Bt} {Γ:List Ob} {w w':World} {i E k:Nat} {rows rows':List (List GV)} {x:Value} {xs:List Value} (h:Inv B K β Γ w) (hi:Γ[i]?=some (.vech E k rows x)) (hl:rows'.length=rows.length)
  (ho:gk w' 0 E k x rows'.length xs) (hr:aV K β xs rows'.flatten) (eJ:fq k rows') (hx:Ext (fun b=>x.ownBlock=some b) w w'):Inv B K β (oset Γ i (.vech E k rows' x)) w':=by
 obtain ⟨xs0,h1,h2,h3,h4,h5⟩:=h.ob i _ hi
 have ef:∀ b,x.ownBlock=some b->(β i).blk=some b:=fun b hb=>by rw [h1];exact hb
 rw [aY];refine ⟨h.ext.step hx (fun j hj=>(h.own i j (ef j hj)).symm),h.kle,h.ble,h.loc,h.fz.ext hx (fun b o g hg he=>by rw [h5 b he o] at hg;cases hg),fun j y hj=>?_,fun j hj=>h.out j (by simpa using hj),h.dis,h.own,h.kn,h.tab.step hx (fun j hj=>⟨i,ef j hj⟩) (ca.refl K) (fun i b2 h=>.inl ⟨i,h⟩)⟩;rw [List.getElem?_set] at hj;split at hj
 ·rename_i fB;split at hj
  ·cases hj;subst fB
   exact ⟨xs,by rw [hl];exact h1,ho,hr,eJ,h5⟩
  ·cases hj
 ·rename_i fB;exact (h.ob j y hj).ext hx (fun b hb he=>fB (h.dis i j b (ef b he) hb)) (ca.refl K) (cX.refl β) rfl (fun _ _ _ h=>h)
theorem DE (l:List Int):(bm l).flatten=l.map fun i=>GV.v (ii i):=by
 unfold bm
 induction l with
 | nil=>rfl
 | cons a l ih=>rw [List.map_cons,flatten_cons,ih];rfl
theorem da (l:List Int):(bm l).length=l.length:=by simp [bm]
theorem IM (l:List Int):fq 1 (bm l):=fun r hr=>by
 obtain ⟨i,_,rfl⟩:=List.mem_map.1 hr;exact ⟨rfl,fun g hg=>by rw [List.mem_singleton.1 hg];rfl⟩
theorem DW {K:Fz} {β:Bt} (l:List Int):aV K β (l.map (Value.int .i64)) ((bm l).flatten):=by
 rw [DE];refine ⟨by simp,fun i v g h1 h2=>?_⟩;rw [getElem?_map] at h1 h2
 cases hl:l[i]? with
 | none=>rw [hl] at h1;cases h1
 | some z=>rw [hl] at h1 h2;cases h1;cases h2;exact .v _
theorem xa {K:Fz} {β:Bt} {xs:List Value} {l:List Int} (h:aV K β xs ((bm l).flatten)):xs=l.map (Value.int .i64):=by
 rw [DE] at h;apply List.ext_getElem?;intro i;rw [getElem?_map]
 cases hl:l[i]? with
 | none =>
  have:=h.1;rw [length_map] at this;have h2:=List.getElem?_eq_none_iff.1 hl;rw [getElem?_eq_none ae];rfl
 | some z =>
  obtain ⟨v,hv,hr⟩:=h.at (i:=i) (g:=.v (ii z)) (by rw [getElem?_map,hl];rfl);rw [hv,Rel.dR hr];rfl
theorem Il {w:World} {g q:Nat} {d:Array Int} {os:Array Obj}:Ext (fun b=>b=g) w (Go.Sort.grow (Go.Sort.putRow (Value.int .i64) (Go.Sort.ahead w q) g 0 d) os):=by
 refine ⟨rfl,rfl,rfl,by simp [Go.Sort.grow,Go.Sort.putRow,Go.Sort.mapBlock,Go.Sort.ahead],fun k hk hn=>?_⟩;simp only [Go.Sort.grow,Go.Sort.putRow,Go.Sort.mapBlock,Go.Sort.ahead];rw [Array.getElem?_append_left (by simpa using hk),Array.getElem?_modify,if_neg ae]
theorem Rf {K:Fz} {β:Bt} {vs:List Value} {x:Value} (h:aV K β vs [.v x]):vs=[x]:=by
 match vs,h.1 with
 | [v],_=>rw [Rel.dR h.nf.1]
theorem Lt (zs:List Int) (E:TypeId) (a:Option Addr) (c:Nat) (hz:zs.length<=1099511627776) :
  GF Tryz.prog 105 [.v (.slice a zs.length c)] [.vech E 1 (bm zs) (.slice a zs.length c)] (.tup []) [.vech E 1 (bm (fv zs)) (.slice a zs.length c)]:=fun B K β w vs hm hI hF=>by
 obtain rfl:=Rf hF;obtain ⟨xs,h1,h2,h3,h4,h5⟩:=hI.ob 0 _ rfl;have oT:=xa h3;subst oT;rw [da] at h2
 by_cases hn:(Value.slice a zs.length c)=.slice none 0 0
 ·injection hn with e1 e2 e3
  have FX:zs=[]:=List.eq_nil_of_length_eq_zero e2;subst FX;subst e1;refine lT.oW (Calls.mono (Tryz.slices_Sort_int_none none c w) ?_);rintro e w' ⟨he,rfl⟩;exact ⟨_,he,K,β,.tup [],_,hI,.tup [] [] rfl (fun i v g h=>by simp at h),rfl,by rw [show fv []=[] by simp [fv]]⟩
 ·obtain ⟨g,cap,hv,mP,WX,n9,wW,Z5,hH⟩:=Go.Lib.holds_of_ownsRow h2 hn
  injection hv with e1 e2 e3
  subst e1;subst e3;refine lT.oW (Calls.mono (Tryz.slices_Sort_int g 0 c zs w hH WX ae) ?_);rintro e w' ⟨he,n,os,rfl⟩;have eS:=Go.Lib.ownsRow_putRow (q:=n) (k:=zs.length) (ys:=fv zs) h2 (lO zs) (Nat.le_refl _);rw [take_of_length_le (by rw [lO];exact Nat.le_refl _)] at eS;have J8:=Go.Lib.ownsRow_grow eS 0 os;refine ⟨_,he,K,β,.tup [],_,hI.renew (i:=0) rfl (rows':=bm (fv zs)) (xs:=(fv zs).map (Value.int .i64)) (by rw [da,da,lO]) ?_ (DW _) (IM _) ?_,.tup [] [] rfl (fun i v g h=>by simp at h),rfl,rfl⟩
  ·rw [da,lO];exact J8
  ·exact (Il (w:=w) (g:=g) (q:=n) (d:=(fv zs).toArray) (os:=os)).mono fun b _ hb=>by rw [hb];rfl
theorem PZ {K:Fz} {β:Bt} {g n c k:Nat} {rows:List (List GV)} (h:Rel K β (.slice (some ⟨g,0,none⟩) n c) (.sl k rows)) (bK:rows≠[]) :
  ∀ (i:Nat) r,rows[i]?=some r->r.length=k/\∀ (j:Nat) gg,r[j]?=some gg->K g (0+i * k+j)=some gg:=by
 generalize hv:Value.slice (some ⟨g,0,none⟩) n c=v at h
 cases h with
 | sl0 a c k=>exact absurd rfl bK
 | sl b o c k rows h hc =>
  injection hv with e1 e2 e3
  injection e1 with e1
  injection e1 with e1 e4
  subst e1;subst e4;exact h
theorem Li (zs:List Int) (E:TypeId) (a:Option Addr) (c:Nat) (hz:zs.length<=1099511627776) (vc:(Go.Lib.compact zs).length<=zs.length) :
  GC Tryz.prog 106 [.v (.slice a zs.length c)] [.vech E 1 (bm zs) (.slice a zs.length c)] fun g Δ=>g=ints (Go.Lib.compact zs)/\∃ fz S,Δ=[.vec E 1 fz S]:=fun B K β w vs hm hI hF=>by
 obtain rfl:=Rf hF;obtain ⟨xs,h1,h2,h3,h4,h5⟩:=hI.ob 0 _ rfl;have oT:=xa h3;subst oT;rw [da] at h2
 by_cases FX:zs=[]
 ·subst FX;refine lT.oW (Calls.mono (Tryz.slices_Compact_int_empty a c w) ?_);rintro e w' ⟨he,rfl⟩;exact ⟨_,he,K,β,ints [],_,hI.yt (i:=0) rfl,.sl0 a c 1,rfl,_,_,rfl⟩
 ·have hn:(Value.slice a zs.length c)≠.slice none 0 0:=fun hn=>by
   injection hn with e1 e2 e3
   exact FX (List.eq_nil_of_length_eq_zero e2)
  obtain ⟨g,cap,hv,mP,WX,n9,wW,Z5,hH⟩:=Go.Lib.holds_of_ownsRow h2 hn
  injection hv with e1 e2 e3
  subst e1;subst e3;refine lT.oW (Calls.mono (Tryz.slices_Compact_int g 0 c zs w hH ae n9) ?_);rintro e w' ⟨he,q,rfl⟩;generalize hcz:Go.Lib.compact zs=cz at *;generalize Q1:cz++List.replicate (zs.length - cz.length) (0:Int)=ys at *
  have FW:ys.length=zs.length:=by rw [<-Q1,length_append,List.length_replicate];omega
  have eS:=Go.Lib.ownsRow_putRow (q:=q) (k:=zs.length) (ys:=ys) h2 FW (Nat.le_refl _);rw [take_of_length_le ae] at eS;have nG:=hI.renew (i:=0) rfl (rows':=bm ys) (xs:=ys.map (Value.int .i64)) (w':=Go.Sort.putRow (Value.int .i64) (Go.Sort.ahead w q) g 0 ys.toArray) (by rw [da,da,FW]) (by rw [da,FW];exact eS) (DW _) (IM _)
   (by
    have:=(Il (w:=w) (g:=g) (q:=q) (d:=ys.toArray) (os:=#[]));rw [Go.Sort.grow_empty] at this
    exact this.mono fun b _ hb=>by rw [hb];rfl)
  obtain ⟨K',hK,hr,Fo⟩:=nG.qR (i:=0) rfl;refine ⟨_,he,K',β,ints cz,_,Fo,?_,rfl,_,_,rfl⟩
  have jh:zs.length=(bm ys).length:=by rw [da,FW]
  rw [jh] at hr;have Fu:=PZ hr (fun e=>FX (List.eq_nil_of_length_eq_zero (by rw [jh,e];rfl)))
  have TM:cz.length=(cz.map fun i=>[GV.v (ii i)]).length:=by simp
  rw [TM];refine .sl g 0 c 1 _ (fun i r h=>?_) (by rw [<-TM];omega);refine Fu i r ?_;have hi:=(List.getElem?_eq_some_iff.1 h).1;rw [length_map] at hi;rw [<-Q1];unfold bm;rw [map_append,getElem?_append_left (by rw [length_map];exact hi)];exact h
end Go.Xg
namespace Go.Im
open Go.Xp Go.Sp
end Go.Im
namespace Go.Xg
open Go.RowKit Go.Xw Go.Proofs
open Go.Xp (Nd T Ar aK ay b7)
open Go.Sp (Src)
open Go.Im
attribute [local irreducible] GW GL GO YG GC GA aS aW
end Go.Xg
set_option maxHeartbeats 1000000
namespace Go.Xg
open Go.RowKit Go.Xw Go.Proofs
open Go.Xp (Tok Nd T bb one levels Ar)
open Go.Sp
attribute [local irreducible] GW GL GO YG GC GA aS aW
theorem VH (p:Src) (hp:p.nodes.length<=1000000000000) (hk:∀ n∈p.nodes,n.kids.length<=1000000000000):∀ (f a d:Nat) (e:Int),d<=801->nO p.nodes f a d=some e->GF Tryz.prog 188 [.agg (ar p),.v (ii (a:Nat)),.v (ii (d:Nat))] [] (.v (ii e)) []:=by
 intro f
 induction f using Nat.strongRecOn with
 | _ f ih =>
 intro a d e hd h
 cases f with
 | zero=>simp [nO] at h
 | succ f =>
 rw [nO] at h;refine db Tryz.func188 Tryz.ntmps188 ?_
 by_cases h1:p.nodes.length<=a
 ·rw [if_pos (.inl h1)] at h;cases h
  have cv:decide (((p.nodes.map ax).length:Int)<=(a:Int))=true:=by simpa using h1
  exact av
 have cv:decide (((p.nodes.map ax).length:Int)<=(a:Int))=false:=by simpa using h1
 by_cases h2:d > 800
 ·rw [if_pos (.inr h2)] at h;cases h
  have p7:decide ((800:Int) < (d:Int))=true:=by simpa using by omega
  exact av
 have p7:decide ((800:Int) < (d:Int))=false:=by simpa using by omega
 rw [if_neg ae] at h
 cases hn:p.nodes[a]? with
 | none=>rw [hn] at h;cases h
 | some n =>
 rw [hn] at h;simp only at h;have hr:=jC hn;have eH:=hk n (mem_of_getElem? hn);refine ab ?_
 refine GW.range (n.kids.map fun i=>[GV.v (ii i)]).length (fun k fr Γ=>∃ nx g,fr=[.aaF,.v (ii (a:Nat)),.v (ii (d:Nat)),.loc 0 0,.aaF,.aaF,.aaF,.v (ii nx),.aaF,.aaF,.aaF,.aaF,.aaF,.aaF,.aaF,.aaF,.aaF,.aaF,.aaF,.aaF,.aaF,.aaF,.aaF,.aaF,.aaF,.aaF,ints n.kids,.v (ii ((n.kids.map fun i=>[GV.v (ii i)]).length:Int)),.v (ii (k:Nat)),.aaF,.aaF,.aaF,.aaF,.aaF,.aaF,.aaF,.aaF,.aaF,.aaF,.aaF,.aaF,.aaF,.aaF,.aaF] /\
   Γ=[.box 34 (ar p)]/\0<=nx/\g<=f/\mI p.nodes g (n.kids.drop k) nx d=some e) ?_ (by simp;omega) ?_ ?_ ?_
 ·exact ⟨_,_,Wk.aw al,_,f,rfl,rfl,by omega,Nat.le_refl _,h⟩
 ·rintro k _ _ ⟨_,_,rfl,rfl,_⟩;exact ⟨rfl,rfl,rfl⟩
 ·rintro k _ _ aq ⟨nx,g,rfl,rfl,iY,hg,h⟩
  have aq:k < n.kids.length:=by simpa using aq
  have hx:n.kids[k]?=some n.kids[k]:=by simp [aq]
  rw [drop_eq_getElem_cons aq] at h;generalize n.kids[k]=x at *;have w5:=oY hx
  cases g with
  | zero=>simp [mI] at h
  | succ g =>
  rw [mI] at h
  by_cases hxn:x=nx
  ·subst hxn;rw [if_pos rfl] at h
   have hb:(x != x)=false:=by simp
   cases bY:nO p.nodes g x.toNat (d+1) with
   | none=>rw [bY] at h;cases h
   | some y =>
   rw [bY] at h;simp only at h;have yO:=ih g ae x.toNat (d+1) y ae bY;rw [Int.toNat_of_nonneg iY] at yO
   by_cases hy:y < 0
   ·rw [if_pos hy] at h;cases h
    have Ut:decide (y < (0:Int))=true:=by simpa using hy
    refine ab ?_;refine U [] (yO) ?_;exact ao
   ·rw [if_neg hy] at h
    have Ut:decide (y < (0:Int))=false:=by simpa using hy
    refine ab ?_;refine U [] (yO) ?_;exact ⟨rfl,rfl,_,_,Wk.aw al,_,g,rfl,rfl,by omega,by omega,h⟩
  ·rw [if_neg hxn] at h;cases h
   have hb:(x != nx)=true:=by simpa using hxn
   exact av
 ·rintro _ _ ⟨nx,g,rfl,rfl,iY,hg,h⟩;rw [length_map,List.drop_length] at h
  have kE:nx=e:=by cases g <;> (rw [mI] at h;cases h;rfl)
  subst kE;exact av
end Go.Xg
namespace Go.Xg
open Go.RowKit Go.Xw Go.Proofs
open Go.Xp (Tok Nd T bb one levels Ar)
open Go.Sp
attribute [local irreducible] GW GL GO YG GC GA aS aW
theorem Wl (a n:Int) (s:ah) (ks:List Int) (l:List T) (hs:s.length<=1099511627776) (hl:l.length<=1099511627776) (ha:decide (a < 0)=false):GF Tryz.prog 217 [.agg (cT (.mk ⟨1,a,n,s,ks⟩ l))] [] (.v (.bool (bF (.mk ⟨1,a,n,s,ks⟩ l)))) []:=by
 have how:bF (.mk ⟨1,a,n,s,ks⟩ l)=(decide ((0:Int)<=n)&&(decide (n<=2147483647)&&((s==[])&&((l.length:Int)==0)))):=by unfold bF own;rw [if_neg (by show ¬ (decide (a < 0)=true);rw [ha];decide)];rfl
 rw [how];refine db Tryz.func217 Tryz.ntmps217 ?_
 cases h0:decide ((0:Int)<=n) with
 | false =>
  exact av
 | true =>
  cases h1:decide (n<=2147483647) with
  | false =>
   exact av
  | true =>
   cases h2:(s==[]) with
   | false =>
    exact av
   | true =>
    refine ab ?_;refine bG ?_;exact ⟨by first | rfl | (rw [aM];rfl),rfl⟩
theorem Wm (a:Int) (s:ah) (ks:List Int) (l:List T) (hs:s.length<=1099511627776) (hl:l.length<=1099511627776) (ha:decide (a < 0)=false):GF Tryz.prog 217 [.agg (cT (.mk ⟨2,a,0,s,ks⟩ l))] [] (.v (.bool (bF (.mk ⟨2,a,0,s,ks⟩ l)))) []:=by
 have how:bF (.mk ⟨2,a,0,s,ks⟩ l)=(bf s&&((l.length:Int)==0)):=by unfold bF own;rw [if_neg (by show ¬ (decide (a < 0)=true);rw [ha];decide)];rfl
 rw [how];refine db Tryz.func217 Tryz.ntmps217 ?_
 cases h0:bf s with
 | false =>
  refine ab ?_;have hc:=dT s hs;rw [h0] at hc;refine U [] (hc) ?_;exact ao
 | true =>
  refine ab ?_;have hc:=dT s hs;rw [h0] at hc;refine U [] (hc) ?_;refine bG ?_;exact ⟨by first | rfl | (rw [aM];rfl),rfl⟩
theorem Wn (a:Int) (s:ah) (ks:List Int) (l:List T) (hs:s.length<=1099511627776) (hl:l.length<=1099511627776) (ha:decide (a < 0)=false):GF Tryz.prog 217 [.agg (cT (.mk ⟨3,a,0,s,ks⟩ l))] [] (.v (.bool (bF (.mk ⟨3,a,0,s,ks⟩ l)))) []:=by
 have how:bF (.mk ⟨3,a,0,s,ks⟩ l)=(bf s&&(((l.length:Int)==1)&&bc 1 0 l)):=by unfold bF own;rw [if_neg (by show ¬ (decide (a < 0)=true);rw [ha];decide)];rfl
 rw [how];refine db Tryz.func217 Tryz.ntmps217 ?_
 cases h0:bf s with
 | false =>
  refine ab ?_;have hc:=dT s hs;rw [h0] at hc;refine U [] (hc) ?_;exact ao
 | true =>
  cases h1:((l.length:Int)==1) with
  | false =>
   have cv:((((aL l).length:Int)==1))=false:=by rw [<-aM l] at h1;exact h1
   refine ab ?_;have hc:=dT s hs;rw [h0] at hc;refine U [] (hc) ?_;exact ao
  | true =>
   have cv:((((aL l).length:Int)==1))=true:=by rw [<-aM l] at h1;exact h1
   refine ab ?_;have hc:=dT s hs;rw [h0] at hc;refine U [] (hc) ?_;have hc:=eQ (.mk ⟨3,a,0,s,ks⟩ l) 1 hl;refine U [] (hc) ?_;refine bG ?_;exact ⟨by first | rfl | (rw [aM];rfl),rfl⟩
theorem Wo (a:Int) (s:ah) (ks:List Int) (l:List T) (hs:s.length<=1099511627776) (hl:l.length<=1099511627776) (ha:decide (a < 0)=false):GF Tryz.prog 217 [.agg (cT (.mk ⟨4,a,0,s,ks⟩ l))] [] (.v (.bool (bF (.mk ⟨4,a,0,s,ks⟩ l)))) []:=by
 have how:bF (.mk ⟨4,a,0,s,ks⟩ l)=(bf s&&bc l.length 0 l):=by unfold bF own;rw [if_neg (by show ¬ (decide (a < 0)=true);rw [ha];decide)];rfl
 rw [how];refine db Tryz.func217 Tryz.ntmps217 ?_
 cases h0:bf s with
 | false =>
  refine ab ?_;have hc:=dT s hs;rw [h0] at hc;refine U [] (hc) ?_;exact ao
 | true =>
  refine ab ?_;have hc:=dT s hs;rw [h0] at hc;refine U [] (hc) ?_;have hc:=eQ (.mk ⟨4,a,0,s,ks⟩ l) (aL l).length hl;refine U [] (hc) ?_;refine bG ?_;exact ⟨by first | rfl | (rw [aM];rfl),rfl⟩
theorem Wq (a:Int) (s:ah) (ks:List Int) (l:List T) (hs:s.length<=1099511627776) (hl:l.length<=1099511627776) (ha:decide (a < 0)=false):GF Tryz.prog 217 [.agg (cT (.mk ⟨6,a,0,s,ks⟩ l))] [] (.v (.bool (bF (.mk ⟨6,a,0,s,ks⟩ l)))) []:=by
 have how:bF (.mk ⟨6,a,0,s,ks⟩ l)=(ek s&&(((l.length:Int)==2)&&bc 2 0 l)):=by unfold bF own;rw [if_neg (by show ¬ (decide (a < 0)=true);rw [ha];decide)];rfl
 rw [how];refine db Tryz.func217 Tryz.ntmps217 ?_
 cases h0:ek s with
 | false =>
  refine ab ?_;have hc:=sU s;rw [h0] at hc;refine U [] (hc) ?_;exact ao
 | true =>
  cases h1:((l.length:Int)==2) with
  | false =>
   have cv:((((aL l).length:Int)==2))=false:=by rw [<-aM l] at h1;exact h1
   refine ab ?_;have hc:=sU s;rw [h0] at hc;refine U [] (hc) ?_;exact ao
  | true =>
   have cv:((((aL l).length:Int)==2))=true:=by rw [<-aM l] at h1;exact h1
   refine ab ?_;have hc:=sU s;rw [h0] at hc;refine U [] (hc) ?_;have hc:=eQ (.mk ⟨6,a,0,s,ks⟩ l) 2 hl;refine U [] (hc) ?_;refine bG ?_;exact ⟨by first | rfl | (rw [aM];rfl),rfl⟩
theorem Ws (a:Int) (s:ah) (ks:List Int) (l:List T) (hs:s.length<=1099511627776) (hl:l.length<=1099511627776) (ha:decide (a < 0)=false):GF Tryz.prog 217 [.agg (cT (.mk ⟨7,a,0,s,ks⟩ l))] [] (.v (.bool (bF (.mk ⟨7,a,0,s,ks⟩ l)))) []:=by
 have how:bF (.mk ⟨7,a,0,s,ks⟩ l)=(bf s&&(((l.length:Int)==1)&&bc 1 0 l)):=by unfold bF own;rw [if_neg (by show ¬ (decide (a < 0)=true);rw [ha];decide)];rfl
 rw [how];refine db Tryz.func217 Tryz.ntmps217 ?_
 cases h0:bf s with
 | false =>
  refine ab ?_;have hc:=dT s hs;rw [h0] at hc;refine U [] (hc) ?_;exact ao
 | true =>
  cases h1:((l.length:Int)==1) with
  | false =>
   have cv:((((aL l).length:Int)==1))=false:=by rw [<-aM l] at h1;exact h1
   refine ab ?_;have hc:=dT s hs;rw [h0] at hc;refine U [] (hc) ?_;exact ao
  | true =>
   have cv:((((aL l).length:Int)==1))=true:=by rw [<-aM l] at h1;exact h1
   refine ab ?_;have hc:=dT s hs;rw [h0] at hc;refine U [] (hc) ?_;have hc:=eQ (.mk ⟨7,a,0,s,ks⟩ l) 1 hl;refine U [] (hc) ?_;refine bG ?_;exact ⟨by first | rfl | (rw [aM];rfl),rfl⟩
theorem Wt (a:Int) (s:ah) (ks:List Int) (l:List T) (hs:s.length<=1099511627776) (hl:l.length<=1099511627776) (ha:decide (a < 0)=false):GF Tryz.prog 217 [.agg (cT (.mk ⟨8,a,0,s,ks⟩ l))] [] (.v (.bool (bF (.mk ⟨8,a,0,s,ks⟩ l)))) []:=by
 have how:bF (.mk ⟨8,a,0,s,ks⟩ l)=(bf s&&(((l.length:Int)==2)&&bc 2 0 l)):=by unfold bF own;rw [if_neg (by show ¬ (decide (a < 0)=true);rw [ha];decide)];rfl
 rw [how];refine db Tryz.func217 Tryz.ntmps217 ?_
 cases h0:bf s with
 | false =>
  refine ab ?_;have hc:=dT s hs;rw [h0] at hc;refine U [] (hc) ?_;exact ao
 | true =>
  cases h1:((l.length:Int)==2) with
  | false =>
   have cv:((((aL l).length:Int)==2))=false:=by rw [<-aM l] at h1;exact h1
   refine ab ?_;have hc:=dT s hs;rw [h0] at hc;refine U [] (hc) ?_;exact ao
  | true =>
   have cv:((((aL l).length:Int)==2))=true:=by rw [<-aM l] at h1;exact h1
   refine ab ?_;have hc:=dT s hs;rw [h0] at hc;refine U [] (hc) ?_;have hc:=eQ (.mk ⟨8,a,0,s,ks⟩ l) 2 hl;refine U [] (hc) ?_;refine bG ?_;exact ⟨by first | rfl | (rw [aM];rfl),rfl⟩
theorem UR (a:Int) (s:ah) (ks:List Int) (l:List T) (hs:s.length<=1099511627776) (hl:l.length<=1099511627776) (ha:decide (a < 0)=false):GF Tryz.prog 217 [.agg (cT (.mk ⟨10,a,0,s,ks⟩ l))] [] (.v (.bool (bF (.mk ⟨10,a,0,s,ks⟩ l)))) []:=by
 have how:bF (.mk ⟨10,a,0,s,ks⟩ l)=((s==[])&&(((l.length:Int)==2)&&bc 1 0 l)):=by unfold bF own;rw [if_neg (by show ¬ (decide (a < 0)=true);rw [ha];decide)];rfl
 rw [how];refine db Tryz.func217 Tryz.ntmps217 ?_
 cases h0:(s==[]) with
 | false =>
  exact av
 | true =>
  cases h1:((l.length:Int)==2) with
  | false =>
   have cv:((((aL l).length:Int)==2))=false:=by rw [<-aM l] at h1;exact h1
   exact av
  | true =>
   have cv:((((aL l).length:Int)==2))=true:=by rw [<-aM l] at h1;exact h1
   refine ab ?_;have hc:=eQ (.mk ⟨10,a,0,s,ks⟩ l) 1 hl;refine U [] (hc) ?_;refine bG ?_;exact ⟨by first | rfl | (rw [aM];rfl),rfl⟩
theorem US (a:Int) (s:ah) (ks:List Int) (l:List T) (hs:s.length<=1099511627776) (hl:l.length<=1099511627776) (ha:decide (a < 0)=false):GF Tryz.prog 217 [.agg (cT (.mk ⟨11,a,0,s,ks⟩ l))] [] (.v (.bool (bF (.mk ⟨11,a,0,s,ks⟩ l)))) []:=by
 have how:bF (.mk ⟨11,a,0,s,ks⟩ l)=((s==[])&&(((l.length:Int)==1)&&bc 1 0 l)):=by unfold bF own;rw [if_neg (by show ¬ (decide (a < 0)=true);rw [ha];decide)];rfl
 rw [how];refine db Tryz.func217 Tryz.ntmps217 ?_
 cases h0:(s==[]) with
 | false =>
  exact av
 | true =>
  cases h1:((l.length:Int)==1) with
  | false =>
   have cv:((((aL l).length:Int)==1))=false:=by rw [<-aM l] at h1;exact h1
   exact av
  | true =>
   have cv:((((aL l).length:Int)==1))=true:=by rw [<-aM l] at h1;exact h1
   refine ab ?_;have hc:=eQ (.mk ⟨11,a,0,s,ks⟩ l) 1 hl;refine U [] (hc) ?_;refine bG ?_;exact ⟨by first | rfl | (rw [aM];rfl),rfl⟩
theorem UT (a:Int) (s:ah) (ks:List Int) (l:List T) (hs:s.length<=1099511627776) (hl:l.length<=1099511627776) (ha:decide (a < 0)=false):GF Tryz.prog 217 [.agg (cT (.mk ⟨12,a,0,s,ks⟩ l))] [] (.v (.bool (bF (.mk ⟨12,a,0,s,ks⟩ l)))) []:=by
 have how:bF (.mk ⟨12,a,0,s,ks⟩ l)=((s==[])&&(((l.length:Int)==1)&&bc 1 0 l)):=by unfold bF own;rw [if_neg (by show ¬ (decide (a < 0)=true);rw [ha];decide)];rfl
 rw [how];refine db Tryz.func217 Tryz.ntmps217 ?_
 cases h0:(s==[]) with
 | false =>
  exact av
 | true =>
  cases h1:((l.length:Int)==1) with
  | false =>
   have cv:((((aL l).length:Int)==1))=false:=by rw [<-aM l] at h1;exact h1
   exact av
  | true =>
   have cv:((((aL l).length:Int)==1))=true:=by rw [<-aM l] at h1;exact h1
   refine ab ?_;have hc:=eQ (.mk ⟨12,a,0,s,ks⟩ l) 1 hl;refine U [] (hc) ?_;refine bG ?_;exact ⟨by first | rfl | (rw [aM];rfl),rfl⟩
theorem UU (a:Int) (s:ah) (ks:List Int) (l:List T) (hs:s.length<=1099511627776) (hl:l.length<=1099511627776) (ha:decide (a < 0)=false):GF Tryz.prog 217 [.agg (cT (.mk ⟨13,a,0,s,ks⟩ l))] [] (.v (.bool (bF (.mk ⟨13,a,0,s,ks⟩ l)))) []:=by
 have how:bF (.mk ⟨13,a,0,s,ks⟩ l)=(bf s&&(((l.length:Int)==1)&&bc 1 0 l)):=by unfold bF own;rw [if_neg (by show ¬ (decide (a < 0)=true);rw [ha];decide)];rfl
 rw [how];refine db Tryz.func217 Tryz.ntmps217 ?_
 cases h0:bf s with
 | false =>
  refine ab ?_;have hc:=dT s hs;rw [h0] at hc;refine U [] (hc) ?_;exact ao
 | true =>
  cases h1:((l.length:Int)==1) with
  | false =>
   have cv:((((aL l).length:Int)==1))=false:=by rw [<-aM l] at h1;exact h1
   refine ab ?_;have hc:=dT s hs;rw [h0] at hc;refine U [] (hc) ?_;exact ao
  | true =>
   have cv:((((aL l).length:Int)==1))=true:=by rw [<-aM l] at h1;exact h1
   refine ab ?_;have hc:=dT s hs;rw [h0] at hc;refine U [] (hc) ?_;have hc:=eQ (.mk ⟨13,a,0,s,ks⟩ l) 1 hl;refine U [] (hc) ?_;refine bG ?_;exact ⟨by first | rfl | (rw [aM];rfl),rfl⟩
end Go.Xg
namespace Go.Xg
open Go.RowKit Go.Xw Go.Proofs
open Go.Xp (Tok Nd T bb one levels Ar)
open Go.Sp
attribute [local irreducible] GW GL GO YG GC GA aS aW
theorem Wp (a:Int) (s:ah) (ks:List Int) (l:List T) (hs:s.length<=1099511627776) (hl:l.length<=1099511627776) (ha:decide (a < 0)=false):GF Tryz.prog 217 [.agg (cT (.mk ⟨5,a,0,s,ks⟩ l))] [] (.v (.bool (bF (.mk ⟨5,a,0,s,ks⟩ l)))) []:=by
 have how:bF (.mk ⟨5,a,0,s,ks⟩ l)=((s==[45] || s==[33] || s==[126])&&(((l.length:Int)==1)&&bc 1 0 l)):=by unfold bF own;rw [if_neg (by show ¬ (decide (a < 0)=true);rw [ha];decide)];rfl
 rw [how];refine db Tryz.func217 Tryz.ntmps217 ?_
 cases h1:(s==[45]) with
 | true =>
  cases h4:((l.length:Int)==1) with
  | false =>
   have Mv:(((aL l).length:Int)==1)=false:=by rw [<-aM l] at h4;exact h4
   exact av
  | true =>
   have Mv:(((aL l).length:Int)==1)=true:=by rw [<-aM l] at h4;exact h4
   refine ab ?_;have hc:=eQ (.mk ⟨5,a,0,s,ks⟩ l) 1 hl;refine U [] (hc) ?_;exact ao
 | false =>
  cases h2:(s==[33]) with
  | true =>
   cases h4:((l.length:Int)==1) with
   | false =>
    have Mv:(((aL l).length:Int)==1)=false:=by rw [<-aM l] at h4;exact h4
    exact av
   | true =>
    have Mv:(((aL l).length:Int)==1)=true:=by rw [<-aM l] at h4;exact h4
    refine ab ?_;have hc:=eQ (.mk ⟨5,a,0,s,ks⟩ l) 1 hl;refine U [] (hc) ?_;exact ao
  | false =>
   cases h3:(s==[126]) with
   | false =>
    exact av
   | true =>
    cases h4:((l.length:Int)==1) with
    | false =>
     have Mv:(((aL l).length:Int)==1)=false:=by rw [<-aM l] at h4;exact h4
     exact av
    | true =>
     have Mv:(((aL l).length:Int)==1)=true:=by rw [<-aM l] at h4;exact h4
     refine ab ?_;have hc:=eQ (.mk ⟨5,a,0,s,ks⟩ l) 1 hl;refine U [] (hc) ?_;exact ao
theorem Wu (a:Int) (s:ah) (ks:List Int) (l:List T) (hs:s.length<=1099511627776) (hl:l.length<=1099511627776) (ha:decide (a < 0)=false):GF Tryz.prog 217 [.agg (cT (.mk ⟨9,a,0,s,ks⟩ l))] [] (.v (.bool (bF (.mk ⟨9,a,0,s,ks⟩ l)))) []:=by
 have how:bF (.mk ⟨9,a,0,s,ks⟩ l)=((s==[])&&((((l.length:Int)==2) || ((l.length:Int)==3))&&bc 1 0 l)):=by unfold bF own;rw [if_neg (by show ¬ (decide (a < 0)=true);rw [ha];decide)];rfl
 rw [how];refine db Tryz.func217 Tryz.ntmps217 ?_
 cases h0:(s==[]) with
 | false =>
  exact av
 | true =>
  cases h1:((l.length:Int)==2) with
  | true =>
   have cv:(((aL l).length:Int)==2)=true:=by rw [<-aM l] at h1;exact h1
   refine ab ?_;have hc:=eQ (.mk ⟨9,a,0,s,ks⟩ l) 1 hl;refine U [] (hc) ?_;exact ao
  | false =>
   have cv:(((aL l).length:Int)==2)=false:=by rw [<-aM l] at h1;exact h1
   cases h2:((l.length:Int)==3) with
   | true =>
    have p7:(((aL l).length:Int)==3)=true:=by rw [<-aM l] at h2;exact h2
    refine ab ?_;have hc:=eQ (.mk ⟨9,a,0,s,ks⟩ l) 1 hl;refine U [] (hc) ?_;exact ao
   | false =>
    have p7:(((aL l).length:Int)==3)=false:=by rw [<-aM l] at h2;exact h2
    exact av
theorem UW (a:Int) (s:ah) (ks:List Int) (l:List T) (hs:s.length<=1099511627776) (hl:l.length<=1099511627776) (ha:decide (a < 0)=false):GF Tryz.prog 217 [.agg (cT (.mk ⟨14,a,0,s,ks⟩ l))] [] (.v (.bool (bF (.mk ⟨14,a,0,s,ks⟩ l)))) []:=by
 have how:bF (.mk ⟨14,a,0,s,ks⟩ l)=((l.all fun x=>fT x.n.kind)&&(s==[])):=by unfold bF own;rw [if_neg (by show ¬ (decide (a < 0)=true);rw [ha];decide)];rfl
 rw [how];refine ai Tryz.func217 Tryz.ntmps217 ?_;refine GW.range (aL l).length (fun k fr Γ=>∃ n,fr=[.aaF,.loc 0 0,.aaF,.loc 1 0,.aaF,.aaF,.aaF,.aaF,.aaF,.aaF,.aaF,.aaF,.aaF,.aaF,.aaF,.aaF,.aaF,.aaF,.aaF,.aaF,.aaF,.aaF,.aaF,.aaF,.aaF,.aaF,.aaF,.aaF,.aaF,.aaF,.aaF,.aaF,.aaF,.aaF,.aaF,.aaF,.aaF,.aaF,.aaF,.aaF,.aaF,.aaF,.aaF,.aaF,.aaF,.aaF,.aaF,.aaF,.aaF,.aaF,.aaF,.aaF,.aaF,.aaF,.aaF,.aaF,.aaF,.aaF,.aaF,.aaF,.aaF,.aaF,.aaF,.aaF,.aaF,.aaF,.aaF,.aaF,.aaF,.aaF,.aaF,.aaF,.aaF,.aaF,.aaF,.aaF,.aaF,.aaF,.aaF,.aaF,.aaF,.aaF,.aaF,.aaF,.aaF,.aaF,.aaF,.aaF,.aaF,.aaF,.aaF,.aaF,.aaF,.aaF,.aaF,.aaF,.aaF,.aaF,.aaF,.aaF,.aaF,.aaF,.aaF,.aaF,.aaF,.aaF,.aaF,.aaF,.aaF,.aaF,.aaF,.aaF,.aaF,.aaF,.aaF,.aaF,.aaF,.aaF,.aaF,.aaF,.aaF,.aaF,.aaF,.aaF,.aaF,.aaF,.aaF,.aaF,.aaF,.aaF,.aaF,.aaF,.aaF,.aaF,.aaF,.aaF,.aaF,.aaF,.aaF,.aaF,.aaF,.aaF,.aaF,.aaF,.aaF,.aaF,.aaF,.aaF,.aaF,.aaF,.aaF,.aaF,.aaF,.aaF,.aaF,.aaF,.aaF,.aaF,.aaF,.aaF,.aaF,.aaF,.aaF,.aaF,.aaF,.aaF,.aaF,.aaF,.aaF,.aaF,.aaF,.aaF,.aaF,.aaF,.aaF,.aaF,.sl 6 (aL l),.v (ii ((aL l).length:Int)),.v (ii (k:Nat)),.aaF,.aaF,.aaF,.aaF,.aaF,.aaF,.aaF,.aaF,.aaF,.aaF,.aaF,.aaF]/\Γ=[.box 94 (cT (.mk ⟨14,a,0,s,ks⟩ l)),.box 91 n]/\n=ax ⟨14,a,0,s,ks⟩/\((l.take k).all fun x=>fT x.n.kind)=true) ?_ (by rw [aM];exact hl) ?_ ?_ ?_
 ·exact ⟨_,_,Wk.aw al,_,rfl,rfl,rfl,rfl⟩
 ·rintro k _ _ ⟨_,rfl,rfl,_⟩;exact ⟨rfl,rfl,rfl⟩
 ·rintro k _ _ hk ⟨_,rfl,rfl,rfl,hf⟩
  have hk:k < l.length:=by rw [aM] at hk;exact hk
  have hx:l[k]?=some l[k]:=by simp [hk]
  have hr:=cJ hx;generalize l[k]=x at *;have he:=Hw x.n.kind
  cases hb:fT x.n.kind with
  | true =>
   rw [hb] at he;refine ab ?_;refine U [] (he) ?_;exact ⟨rfl,rfl,_,_,(Wk.cut (n:=2) (Nat.le_of_ble_eq_true rfl) rfl).trans (Wk.aw al),_,rfl,rfl,rfl,by rw [take_add_one,hx,all_append,hf];simp only [Option.toList,all_cons,all_nil,hb];rfl⟩
  | false =>
   rw [hb] at he;refine ab ?_;refine U [] (he) ?_;refine bG ?_
   have ha:(l.all fun x=>fT x.n.kind)=false:=by
    rw [all_eq_false];exact ⟨x,mem_of_getElem? hx,by simp [hb]⟩
   rw [ha];exact ⟨rfl,rfl⟩
 ·rintro _ _ ⟨_,rfl,rfl,rfl,hf⟩
  have hf:(l.all fun x=>fT x.n.kind)=true:=by
   rw [take_of_length_le (by rw [aM];omega)] at hf;exact hf
  rw [hf];exact av
theorem Wy (k a n:Int) (s:ah) (ks:List Int) (l:List T) (hk:k=1\/k=2\/k=3\/k=4\/k=5\/k=6\/k=7\/k=8\/k=9\/k=10\/k=11\/k=12\/k=13\/k=14\/True) (hx:¬ (k=1\/k=2\/k=3\/k=4\/k=5\/k=6\/k=7\/k=8\/k=9\/k=10\/k=11\/k=12\/k=13\/k=14)) (ha:decide (a < 0)=false) (hn:(n != 0)=false):GF Tryz.prog 217 [.agg (cT (.mk ⟨k,a,n,s,ks⟩ l))] [] (.v (.bool (bF (.mk ⟨k,a,n,s,ks⟩ l)))) []:=by
 simp only [not_or] at hx;obtain ⟨h1,h2,h3,h4,h5,h6,h7,h8,h9,kL,n5,nF,eA,Bn⟩:=hx
 have h1:(k==1)=false:=by simpa using h1
 have h1x:(k != 1)=true:=by simp only [bne,h1];rfl
 have h2:(k==2)=false:=by simpa using h2
 have h3:(k==3)=false:=by simpa using h3
 have h4:(k==4)=false:=by simpa using h4
 have h5:(k==5)=false:=by simpa using h5
 have h6:(k==6)=false:=by simpa using h6
 have h7:(k==7)=false:=by simpa using h7
 have h8:(k==8)=false:=by simpa using h8
 have h9:(k==9)=false:=by simpa using h9
 have kL:(k==10)=false:=by simpa using kL
 have n5:(k==11)=false:=by simpa using n5
 have nF:(k==12)=false:=by simpa using nF
 have eA:(k==13)=false:=by simpa using eA
 have Bn:(k==14)=false:=by simpa using Bn
 have how:bF (.mk ⟨k,a,n,s,ks⟩ l)=false:=by
  show own ⟨k,a,n,s,ks⟩ _ _ _=_;simp [own,h1,h2,h3,h4,h5,h6,h7,h8,h9,kL,n5,nF,eA,Bn]
 rw [how];refine ai Tryz.func217 Tryz.ntmps217 ?_;exact ao
theorem Wv (k a n:Int) (s:ah) (ks:List Int) (l:List T) (ha:decide (a < 0)=true):GF Tryz.prog 217 [.agg (cT (.mk ⟨k,a,n,s,ks⟩ l))] [] (.v (.bool (bF (.mk ⟨k,a,n,s,ks⟩ l)))) []:=by
 have how:bF (.mk ⟨k,a,n,s,ks⟩ l)=false:=by
  show own ⟨k,a,n,s,ks⟩ _ _ _=_;unfold own;rw [if_pos ha]
 rw [how];refine ai Tryz.func217 Tryz.ntmps217 ?_;exact ao
theorem Wx (k a n:Int) (s:ah) (ks:List Int) (l:List T) (ha:decide (a < 0)=false) (hk:(k != 1)=true) (hn:(n != 0)=true):GF Tryz.prog 217 [.agg (cT (.mk ⟨k,a,n,s,ks⟩ l))] [] (.v (.bool (bF (.mk ⟨k,a,n,s,ks⟩ l)))) []:=by
 have how:bF (.mk ⟨k,a,n,s,ks⟩ l)=false:=by
  show own ⟨k,a,n,s,ks⟩ _ _ _=_;unfold own;rw [if_neg (by show ¬ (decide (a < 0)=true);rw [ha];decide),if_pos (by show ((k != 1)&&(n != 0))=true;rw [hk,hn];rfl)]
 rw [how];refine ai Tryz.func217 Tryz.ntmps217 ?_;exact ao
theorem Pq (t:T) (hs:t.n.s.length<=1099511627776) (hl:t.kids.length<=1099511627776):GF Tryz.prog 217 [.agg (cT t)] [] (.v (.bool (bF t))) []:=by
 obtain ⟨⟨k,a,n,s,ks⟩,l⟩:=t
 cases ha:decide (a < 0) with
 | true=>exact Wv k a n s ks l ha
 | false =>
 by_cases tW:k=1
 ·subst tW;exact Wl a n s ks l hs hl ha
 by_cases hn:n=0
 ·subst hn
  by_cases h:k=1\/k=2\/k=3\/k=4\/k=5\/k=6\/k=7\/k=8\/k=9\/k=10\/k=11\/k=12\/k=13\/k=14
  ·rcases h with rfl | rfl | rfl | rfl | rfl | rfl | rfl | rfl | rfl | rfl | rfl | rfl | rfl | rfl
   ·exact absurd rfl tW
   ·exact Wm a s ks l hs hl ha
   ·exact Wn a s ks l hs hl ha
   ·exact Wo a s ks l hs hl ha
   ·exact Wp a s ks l hs hl ha
   ·exact Wq a s ks l hs hl ha
   ·exact Ws a s ks l hs hl ha
   ·exact Wt a s ks l hs hl ha
   ·exact Wu a s ks l hs hl ha
   ·exact UR a s ks l hs hl ha
   ·exact US a s ks l hs hl ha
   ·exact UT a s ks l hs hl ha
   ·exact UU a s ks l hs hl ha
   ·exact UW a s ks l hs hl ha
  ·exact Wy k a 0 s ks l (by simp) h ha rfl
 ·exact Wx k a n s ks l ha (by simpa using tW) (by simpa using hn)
end Go.Xg
namespace Go.Xg
open Go.RowKit Go.Xw Go.Proofs
open Go.Xp (Tok Nd T bb one levels Ar)
open Go.Sp
attribute [local irreducible] GW GL GO YG GC GA aS aW
theorem Lv (l:List T):bN l=l.all cS:=by
 induction l with
 | nil=>simp [bN]
 | cons a l ih=>simp [bN,ih]
theorem Pp:∀ (sz:Nat) (t:T),SizeOf.sizeOf t<=sz->Gz t->GF Tryz.prog 189 [.agg (cT t)] [] (.v (.bool (cS t))) []:=by
 intro sz
 induction sz with
 | zero=>intro t h _;cases t;simp at h
 | succ sz ih =>
 intro t cI iC;obtain ⟨n,l⟩:=t;have aaD:=iC;rw [Gz] at iC;obtain ⟨hs,hl,hm⟩:=iC
 have how:cS (.mk n l)=(bN l&&bF (.mk n l)):=by rw [cS]
 rw [how];rw [Lv];refine ai Tryz.func189 Tryz.ntmps189 ?_;refine GW.range (aL l).length (fun k fr Γ=>fr=[.aaF,.loc 0 0,.aaF,.aaF,.aaF,.aaF,.sl 6 (aL l),.v (ii ((aL l).length:Int)),.v (ii (k:Nat)),.aaF,.aaF,.aaF,.aaF,.aaF,.aaF,.aaF,.aaF,.aaF]/\Γ=[.box 94 (cT (.mk n l))]/\((l.take k).all cS)=true) ?_ (by rw [aM];exact hl) ?_ ?_ ?_
 ·exact ⟨_,_,Wk.aw al,rfl,rfl,rfl⟩
 ·rintro k _ _ ⟨rfl,rfl,_⟩;exact ⟨rfl,rfl,rfl⟩
 ·rintro k _ _ hk ⟨rfl,rfl,hf⟩
  have hk:k < l.length:=by rw [aM] at hk;exact hk
  have hx:l[k]?=some l[k]:=by simp [hk]
  have CD:=mem_of_getElem? hx;have aq:=List.sizeOf_lt_of_mem CD;have hr:=cJ hx;have he:=ih l[k] (by simp at cI;omega) (GD hm CD);generalize l[k]=x at *
  cases hb:cS x with
  | true =>
   rw [hb] at he;refine ab ?_;refine U [] (he) ?_;exact ⟨rfl,rfl,_,_,(Wk.cut (n:=1) (Nat.le_of_ble_eq_true rfl) rfl).trans (Wk.aw al),rfl,rfl,by rw [take_add_one,hx,all_append,hf];simp only [Option.toList,all_cons,all_nil,hb];rfl⟩
  | false =>
   rw [hb] at he;refine ab ?_;refine U [] (he) ?_;refine bG ?_
   have ha:(l.all cS)=false:=by
    rw [all_eq_false];exact ⟨x,mem_of_getElem? hx,by simp [hb]⟩
   rw [ha];exact ⟨rfl,rfl⟩
 ·rintro _ _ ⟨rfl,rfl,hf⟩
  have hf:(l.all cS)=true:=by
   rw [take_of_length_le (by rw [aM];omega)] at hf;exact hf
  rw [hf];refine ab ?_;refine U [] (Pq (.mk n l) hs hl) ?_;exact ao
theorem Po (t:T) (h:Gz t):GF Tryz.prog 189 [.agg (cT t)] [] (.v (.bool (cS t))) []:=Pp _ t (Nat.le_refl _) h
end Go.Xg
namespace Go.Xg
open Go.RowKit Go.Xw Go.Proofs
open Go.Xp (Tok Nd T bb one levels Ar)
open Go.Sp
attribute [local irreducible] GW GL GO YG GC GA aS aW
structure B5 (p:Src):Prop where
 globals:p.globals.length<=1000000000000/\∀ s∈p.globals,s.length<=1000000000000
 arrays:p.arrays.length<=1000000000000/\∀ a∈p.arrays,a.name.length<=1000000000000
 fns:p.fns.length<=1000000000000/\∀ f∈p.fns,f.name.length<=1000000000000/\f.params.length<=1000000000000/\∀ s∈f.params,s.length<=1000000000000
 nodes:p.nodes.length<=1000000000000/\∀ n∈p.nodes,n.s.length<=1000000000000/\n.kids.length<=1000000000000
theorem Jf {l:List ah} {i:Nat} {s:ah} (h:l[i]?=some s):(l.map fun s=>[GV.v (sv s)])[i]?=some [.v (sv s)]:=by rw [getElem?_map,h];rfl
theorem Gp {l:List Ar} {i:Nat} {s:Ar} (h:l[i]?=some s):(l.map aB)[i]?=some (aB s):=by rw [getElem?_map,h];rfl
theorem BX {l:List Go.Sp.Fn} {i:Nat} {s:Go.Sp.Fn} (h:l[i]?=some s):(l.map au)[i]?=some (au s):=by rw [getElem?_map,h];rfl
theorem uN {α:Type} {l:List α} {q:α->Bool} {k:Nat} {x:α} (hx:l[k]?=some x) (hb:q x=false):l.all q=false:=by
 rw [all_eq_false];exact ⟨x,mem_of_getElem? hx,by simp [hb]⟩
theorem BN (p:Src) (hp:B5 p) (b:Bool) (h:nC p=some b):GF Tryz.prog 151 [.agg (ar p)] [] (.v (.bool b)) []:=by
 unfold nC at h;refine ai Tryz.func151 Tryz.ntmps151 ?_;refine GW.range (p.globals.map fun s=>[GV.v (sv s)]).length (fun k fr Γ=>fr=[.aaF,.loc 0 0,.aaF,.v (ii 0),.aaF,.aaF,.aaF,.aaF,.aaF,.aaF,.aaF,.aaF,.aaF,.aaF,.aaF,strs p.globals,.v (ii ((p.globals.map fun s=>[GV.v (sv s)]).length:Int)),.v (ii (k:Nat)),.aaF,.aaF,.aaF,.aaF,.aaF,.aaF,.aaF,.aaF,.aaF,.aaF,.aaF,.aaF,.aaF,.aaF,.aaF,.aaF,.aaF,.aaF,.aaF,.aaF,.aaF,.aaF,.aaF,.aaF,.aaF,.aaF,.aaF,.aaF,.aaF,.aaF,.aaF,.aaF,.aaF,.aaF,.aaF,.aaF,.aaF,.aaF,.aaF,.aaF,.aaF,.aaF,.aaF,.aaF,.aaF,.aaF,.aaF,.aaF,.aaF,.aaF,.aaF,.aaF,.aaF,.aaF,.aaF,.aaF,.aaF,.aaF,.aaF,.aaF,.aaF,.aaF,.aaF,.aaF,.aaF,.aaF,.aaF,.aaF,.aaF,.aaF,.aaF,.aaF,.aaF,.aaF,.aaF,.aaF,.aaF,.aaF,.aaF,.aaF,.aaF,.aaF,.aaF,.aaF,.aaF,.aaF,.aaF]/\Γ=[.box 34 (ar p)]/\((p.globals.take k).all bf)=true) ?_ (by simpa using by have:=hp.globals.1;omega) ?_ ?_ ?_
 ·exact ⟨_,_,Wk.aw al,rfl,rfl,rfl⟩
 ·rintro k _ _ ⟨rfl,rfl,_⟩;exact ⟨rfl,rfl,rfl⟩
 ·rintro k _ _ hk ⟨rfl,rfl,hf⟩
  have hk:k < p.globals.length:=by simpa using hk
  have hx:p.globals[k]?=some p.globals[k]:=by simp [hk]
  have hr:=Jf hx;have hl:=hp.globals.2 _ (mem_of_getElem? hx);generalize p.globals[k]=x at *;have he:=dT x ae
  cases hb:bf x with
  | true =>
   rw [hb] at he;refine ab ?_;refine U [] (he) ?_;exact ⟨rfl,rfl,_,_,Wk.aw al,rfl,rfl,su hx hf hb⟩
  | false =>
   rw [hb] at he;rw [if_pos (show b9 p.globals=false from uN hx hb)] at h;cases h;refine ab ?_;refine U [] (he) ?_;exact ao
 ·rintro _ _ ⟨rfl,rfl,hf⟩;rw [take_of_length_le (by simp)] at hf;rw [if_neg (by rw [show b9 p.globals=true from hf];decide)] at h;refine ab ?_;refine GW.range (p.arrays.map aB).length (fun k fr Γ=>fr=[.aaF,.loc 0 0,.aaF,.v (ii 0),.aaF,.aaF,.aaF,.aaF,.aaF,.aaF,.aaF,.aaF,.aaF,.aaF,.aaF,.aaF,.aaF,.aaF,.aaF,.aaF,.aaF,.aaF,.aaF,.aaF,.aaF,.aaF,.sl 2 (p.arrays.map aB),.v (ii ((p.arrays.map aB).length:Int)),.v (ii (k:Nat)),.aaF,.aaF,.aaF,.aaF,.aaF,.aaF,.aaF,.aaF,.aaF,.aaF,.aaF,.aaF,.aaF,.aaF,.aaF,.aaF,.aaF,.aaF,.aaF,.aaF,.aaF,.aaF,.aaF,.aaF,.aaF,.aaF,.aaF,.aaF,.aaF,.aaF,.aaF,.aaF,.aaF,.aaF,.aaF,.aaF,.aaF,.aaF,.aaF,.aaF,.aaF,.aaF,.aaF,.aaF,.aaF,.aaF,.aaF,.aaF,.aaF,.aaF,.aaF,.aaF,.aaF,.aaF,.aaF,.aaF,.aaF,.aaF,.aaF,.aaF,.aaF,.aaF,.aaF,.aaF,.aaF,.aaF,.aaF,.aaF,.aaF,.aaF,.aaF,.aaF,.aaF,.aaF,.aaF,.aaF]/\Γ=[.box 34 (ar p)]/\((p.arrays.take k).all nN)=true) ?_ (by simpa using by have:=hp.arrays.1;omega) ?_ ?_ ?_
  ·exact ⟨_,_,Wk.aw al,rfl,rfl,rfl⟩
  ·rintro k _ _ ⟨rfl,rfl,_⟩;exact ⟨rfl,rfl,rfl⟩
  ·rintro k _ _ hk ⟨rfl,rfl,hf⟩
   have hk:k < p.arrays.length:=by simpa using hk
   have hx:p.arrays[k]?=some p.arrays[k]:=by simp [hk]
   have hr:=Gp hx;have hl:=hp.arrays.2 _ (mem_of_getElem? hx);generalize p.arrays[k]=x at *;have he:=dT x.name ae
   cases hb:bf x.name with
   | false =>
    rw [hb] at he;rw [if_pos (uN hx (by simp [nN,hb]))] at h;cases h;refine ab ?_;refine U [] (he) ?_;exact ao
   | true =>
    rw [hb] at he
    cases h1:decide (x.size < 0) with
    | true =>
     rw [if_pos (uN hx (by simp only [nN,hb,h1];rfl))] at h;cases h;refine ab ?_;refine U [] (he) ?_;exact ao
    | false =>
     cases h2:decide (2147483647 < x.size) with
     | true =>
      rw [if_pos (uN hx (by simp only [nN,hb,h1,h2];rfl))] at h;cases h;refine ab ?_;refine U [] (he) ?_;exact ao
     | false =>
      refine ab ?_;refine U [] (he) ?_;exact ⟨rfl,rfl,_,_,(Wk.cut (n:=1) (Nat.le_of_ble_eq_true rfl) rfl).trans (Wk.aw al),rfl,rfl,su hx hf (by simp only [nN,hb,h1,h2];rfl)⟩
  ·rintro _ _ ⟨rfl,rfl,hf⟩;rw [take_of_length_le (by simp)] at hf;rw [if_neg (by rw [hf];decide)] at h;refine ab ?_;refine GW.range (p.fns.map au).length (fun k fr Γ=>∃ nx,fr=[.aaF,.loc 0 0,.aaF,.v (ii nx),.aaF,.aaF,.aaF,.aaF,.aaF,.aaF,.aaF,.aaF,.aaF,.aaF,.aaF,.aaF,.aaF,.aaF,.aaF,.aaF,.aaF,.aaF,.aaF,.aaF,.aaF,.aaF,.aaF,.aaF,.aaF,.aaF,.aaF,.aaF,.aaF,.aaF,.aaF,.aaF,.aaF,.aaF,.aaF,.aaF,.aaF,.aaF,.aaF,.aaF,.aaF,.aaF,.aaF,.aaF,.sl 3 (p.fns.map au),.v (ii ((p.fns.map au).length:Int)),.v (ii (k:Nat)),.aaF,.aaF,.aaF,.aaF,.aaF,.aaF,.aaF,.aaF,.aaF,.aaF,.aaF,.aaF,.aaF,.aaF,.aaF,.aaF,.aaF,.aaF,.aaF,.aaF,.aaF,.aaF,.aaF,.aaF,.aaF,.aaF,.aaF,.aaF,.aaF,.aaF,.aaF,.aaF,.aaF,.aaF,.aaF,.aaF,.aaF,.aaF,.aaF,.aaF,.aaF,.aaF,.aaF,.aaF,.aaF,.aaF,.aaF,.aaF,.aaF,.aaF,.aaF,.aaF,.aaF,.aaF]/\Γ=[.box 34 (ar p)]/\0<=nx/\(match fJ p.nodes (p.fns.drop k) nx with | none=>none | some none=>some false | some (some next)=>some (next==(p.nodes.length:Int)&&decide (next<=800)))=some b) ?_ (by simpa using by have:=hp.fns.1;omega) ?_ ?_ ?_
   ·exact ⟨_,_,Wk.aw al,_,rfl,rfl,Int.le_refl _,h⟩
   ·rintro k _ _ ⟨_,rfl,rfl,_⟩;exact ⟨rfl,rfl,rfl⟩
   ·clear h hf;rintro k _ _ hk ⟨nx,rfl,rfl,iY,h⟩
    have hk:k < p.fns.length:=by simpa using hk
    have hx:p.fns[k]?=some p.fns[k]:=by simp [hk]
    have hr:=BX hx;have hl:=hp.fns.2 _ (mem_of_getElem? hx);rw [drop_eq_getElem_cons hk,fJ] at h;generalize p.fns[k]=x at *
    cases he:nO p.nodes (fN p.nodes) nx.toNat 0 with
    | none=>rw [he] at h;cases h
    | some e =>
    rw [he] at h;simp only at h;have oA:=VH p hp.nodes.1 (fun n hn=>(hp.nodes.2 n hn).2) _ _ 0 _ ae he;rw [Int.toNat_of_nonneg iY] at oA;have bR:=dT x.name ae
    by_cases h1:x.body=nx
    ·have cv:(x.body != nx)=false:=by simpa using h1
     cases hb:bf x.name with
     | false =>
      rw [hb] at bR;rw [if_pos (.inr (.inl hb))] at h;cases h;refine ab ?_;refine U [] (oA) ?_;refine U [] (bR) ?_;exact ao
     | true =>
      rw [hb] at bR
      by_cases h2:e < 0
      ·have p7:decide (e < 0)=true:=by simpa using h2
       rw [if_pos (.inr (.inr h2))] at h;cases h;refine ab ?_;refine U [] (oA) ?_;refine U [] (bR) ?_;exact ao
      ·have p7:decide (e < 0)=false:=by simpa using h2
       rw [if_neg (by rw [hb];simp [h1,h2])] at h;refine ab ?_;refine U [] (oA) ?_;refine U [] (bR) ?_;refine GW.range (x.params.map fun s=>[GV.v (sv s)]).length (fun j fr Γ=>fr=[.aaF,.loc 0 0,.aaF,.v (ii nx),.aaF,.aaF,.aaF,.aaF,.aaF,.loc 1 0,.v (ii e),.aaF,.aaF,.aaF,.aaF,.aaF,.aaF,.aaF,.aaF,.aaF,.aaF,.aaF,.aaF,.aaF,.aaF,.aaF,.aaF,.aaF,.aaF,.aaF,.aaF,.aaF,.aaF,.aaF,.aaF,.aaF,.aaF,.aaF,.aaF,.aaF,.aaF,.aaF,.aaF,.aaF,.aaF,.aaF,.aaF,.aaF,.sl 3 (p.fns.map au),.v (ii ((p.fns.map au).length:Int)),.v (ii (k:Nat)),.aaF,.aaF,.aaF,.aaF,.aaF,.aaF,.aaF,.aaF,.aaF,.aaF,.aaF,.aaF,.aaF,.aaF,.aaF,.aaF,.aaF,.aaF,.aaF,.aaF,.aaF,strs x.params,.v (ii ((x.params.map fun s=>[GV.v (sv s)]).length:Int)),.v (ii (j:Nat)),.aaF,.aaF,.aaF,.aaF,.aaF,.aaF,.aaF,.aaF,.aaF,.aaF,.aaF,.aaF,.aaF,.aaF,.aaF,.aaF,.aaF,.aaF,.aaF,.aaF,.aaF,.aaF,.aaF,.aaF,.aaF,.aaF,.aaF,.aaF,.aaF,.aaF]/\Γ=[.box 34 (ar p),.box 60 (au x)]/\((x.params.take j).all bf)=true) ?_ (by simpa using by omega) ?_ ?_ ?_
       ·exact ⟨_,_,Wk.aw al,rfl,rfl,rfl⟩
       ·rintro k _ _ ⟨rfl,rfl,_⟩;exact ⟨rfl,rfl,rfl⟩
       ·rintro j _ _ hj ⟨rfl,rfl,hf⟩
        have hj:j < x.params.length:=by simpa using hj
        have oT:x.params[j]?=some x.params[j]:=by simp [hj]
        have QW:=Jf oT;have lX:=hl.2.2 _ (mem_of_getElem? oT);generalize x.params[j]=y at *;have bH:=dT y ae
        cases hb:bf y with
        | true =>
         rw [hb] at bH;refine ab ?_;refine U [] (bH) ?_;exact ⟨rfl,rfl,_,_,Wk.aw al,rfl,rfl,su oT hf hb⟩
        | false =>
         rw [hb] at bH;rw [if_pos (show b9 x.params=false from uN oT hb)] at h;cases h;refine ab ?_;refine U [] (bH) ?_;exact ao
       ·rintro _ _ ⟨rfl,rfl,hf⟩;rw [take_of_length_le (by simp)] at hf;rw [if_neg (by rw [show b9 x.params=true from hf];decide)] at h
        cases hs:sub p.nodes (fN p.nodes) nx.toNat with
        | none=>rw [hs] at h;cases h
        | some t =>
        rw [hs] at h;simp only at h;have pD:=Ep p (fun n hn=>(hp.nodes.2 n hn).2) _ _ _ hs;rw [Int.toNat_of_nonneg iY] at pD;have aO:=Po t ((Ve (fun n hn=>by have:=hp.nodes.2 n hn;omega) _).1 _ _ hs)
        by_cases h3:t.n.kind=14
        ·have jI:(t.n.kind != 14)=false:=by simpa using h3
         cases hb:cS t with
         | false =>
          rw [hb] at aO;rw [if_pos (.inr hb)] at h;cases h;refine ab ?_;refine U [] (pD) ?_;refine U [] (aO) ?_;exact ao
         | true =>
          rw [hb] at aO;rw [if_neg (by rw [hb];simp [h3])] at h;refine ab ?_;refine U [] (pD) ?_;refine U [] (aO) ?_;exact ⟨rfl,rfl,_,_,(Wk.cut (n:=1) (Nat.le_of_ble_eq_true rfl) rfl).trans (Wk.aw al),_,rfl,rfl,by omega,h⟩
        ·have jI:(t.n.kind != 14)=true:=by simpa using h3
         rw [if_pos (.inl h3)] at h;cases h;refine ab ?_;refine U [] (pD) ?_;exact ao
    ·have cv:(x.body != nx)=true:=by simpa using h1
     rw [if_pos (.inl h1)] at h;cases h;refine ab ?_;refine U [] (oA) ?_;exact ao
   ·clear h hf;rintro _ _ ⟨nx,rfl,rfl,iY,h⟩;rw [length_map,List.drop_length,fJ] at h;simp only at h;cases h
    cases h1:(nx==(p.nodes.length:Int)) with
    | false =>
     have cv:(nx==((p.nodes.map ax).length:Int))=false:=by rw [length_map];exact h1
     exact av
    | true =>
     have cv:(nx==((p.nodes.map ax).length:Int))=true:=by rw [length_map];exact h1
     exact av
end Go.Xg
namespace Go.Xg
open Go.RowKit Go.Xw Go.Proofs
open Go.Xp (Tok Nd T bb one levels Ar)
open Go.Sp
attribute [local irreducible] GW GL GO YG GC GA aS aW
def mg (k:Int) (s:ah):Int:=if k=6 then (match levels.findIdx? (fun l=>l.contains s) with | some i=>(i:Int) | none => -1) else 9
theorem Kk (t:T):GF Tryz.prog 277 [.agg (cT t)] [] (.v (.int .i64 (mg t.n.kind t.n.s))) []:=by
 refine db Tryz.func277 Tryz.ntmps277 ?_
 by_cases h6:t.n.kind=6
 ·have Y6:(t.n.kind != 6)=false:=by simpa using h6
  unfold mg;rw [if_pos h6];refine ab ?_;refine U [] (jk) ?_;refine GW.range (levels.map fun l=>[strs l]).length (fun k fr Γ=>fr=[.aaF,.loc 0 0,.aaF,.aaF,.aaF,.aaF,.aaF,.aaF,.aaF,.aaF,.aaF,.sl 1 (levels.map fun l=>[strs l]),.v (ii ((levels.map fun l=>[strs l]).length:Int)),.v (ii (k:Nat)),.aaF,.aaF,.aaF,.aaF,.aaF,.aaF,.aaF,.aaF,.aaF,.aaF,.aaF]/\Γ=[.box 94 (cT t)]/\((levels.take k).any fun l=>l.contains t.n.s)=false) ?_ (by decide) ?_ ?_ ?_
  ·exact ⟨_,_,Wk.aw al,rfl,rfl,rfl⟩
  ·rintro k _ _ ⟨rfl,rfl,_⟩;exact ⟨rfl,rfl,rfl⟩
  ·rintro k _ _ hk ⟨rfl,rfl,hf⟩
   have hk:k < levels.length:=by simpa using hk
   have hx:levels[k]?=some levels[k]:=by simp [hk]
   have hr:(levels.map fun l=>[strs l])[k]?=some [strs levels[k]]:=by simp [hk]
   have zF:levels[k].length<=1099511627776:=by
    have:∀ l∈levels,l.length<=1099511627776:=by decide
    exact this _ (getElem_mem hk)
   have zy:levels[k].contains t.n.s=true->levels.findIdx? (fun l=>l.contains t.n.s)=some k:=by
    intro hc;rw [List.findIdx?_eq_some_iff_getElem];refine ⟨hk,hc,fun j hj=>?_⟩;rw [List.any_eq_false] at hf;refine hf _ ?_;rw [List.mem_take_iff_getElem];exact ⟨j,by omega,rfl⟩
   generalize levels[k]=x at *;have hh:=iO x t.n.s zF
   cases hb:x.contains t.n.s with
   | true =>
    rw [hb] at hh;rw [zy hb];refine ab ?_;refine U [] (hh) ?_;exact ao
   | false =>
    rw [hb] at hh;refine ab ?_;refine U [] (hh) ?_;exact ⟨rfl,rfl,_,_,Wk.aw al,rfl,rfl,by rw [take_add_one,hx,List.any_append,hf];simp only [Option.toList,List.any_cons,List.any_nil,hb];rfl⟩
  ·rintro _ _ ⟨rfl,rfl,hf⟩;rw [take_of_length_le (by simp)] at hf
   have hn:levels.findIdx? (fun l=>l.contains t.n.s)=none:=by
    rw [List.findIdx?_eq_none_iff];intro x hx;rw [List.any_eq_false] at hf;simpa using hf x hx
   rw [hn];exact av
 ·have Y6:(t.n.kind != 6)=true:=by simpa using h6
  unfold mg;rw [if_neg h6];refine ab ?_;refine U [] (jk) ?_;exact ao
end Go.Xg
namespace Go.Xg
open Go.RowKit Go.Xw Go.Proofs
open Go.Xp (Tok Nd T bb one levels Ar zb cm oz)
open Go.Sp
attribute [local irreducible] GW GL GO YG GC GA aS aW
theorem RA (n:Int):GF Tryz.prog 300 [.v (ii n)] [] (.v (ii (n % 4294967296))) []:=by
 refine ai Tryz.func300 Tryz.ntmps300 ?_;exact ao
theorem S6 (n:Int):GF Tryz.prog 292 [.v (ii n)] [] (.v (ii (zb n))) []:=by
 unfold zb
 have hb:0<=n % 4294967296/\n % 4294967296 < 4294967296:=by omega
 have hp:=RA n;generalize n % 4294967296=m at *;refine db Tryz.func292 Tryz.ntmps292 ?_
 by_cases h:m > 2147483647
 ·have h':decide ((2147483647:Int) < m)=true:=by simpa using h
  rw [if_pos h];refine ab ?_;refine U [] (hp) ?_;exact ao
 ·have h':decide ((2147483647:Int) < m)=false:=by simpa using h
  rw [if_neg h];refine ab ?_;refine U [] (hp) ?_;exact ao
theorem yg (k:Nat) (h:k<=57):[[GV.v (.int .u8 (k:Int))]]=[UInt8.ofNat k].map fun c=>[GV.v (.int .u8 (c.toNat:Int))]:=by
 have:(UInt8.ofNat k).toNat=k:=by simp;omega
 simp [this]
theorem Ht (n:Nat) (hn:n<=1099511627776):GF Tryz.prog 293 [.v (ii (n:Int))] [] (.v (sv (cm n))) []:=by
 induction n using Nat.strongRecOn with
 | _ n ih =>
 unfold cm;refine db Tryz.func293 Tryz.ntmps293 ?_
 by_cases h:n < 10
 ·have h':decide ((n:Int) < 10)=true:=by simpa using by omega
  have hw:=yg (48+n) ae;rw [Int.natCast_add] at hw;rw [dif_pos h];refine ab ?_;refine bC ?_;exact av
 ·have h':decide ((n:Int) < 10)=false:=by simpa using by omega
  rw [dif_neg h];have hc:=ih (n / 10) ae ae;have hl:=oz (n / 10);have hw:=yg (48+n % 10) ae;rw [Int.natCast_add] at hw;refine ab ?_;refine GW.draw (.q 0 (.q 1 (.q 3 (.q 4 (.q 5 (.q 6 (.f 2 (.a 7 (.q 8 (.q 9 (.q 10 .nil)))) 7 (.q 8 (.a 2 (.q 9 (.q 10 .nil))))))))))) (by kernel_rfl) (by kernel_rfl) ?_;refine aj ?_;refine GO.fork ?_ ?_
  ·refine az [] (hc) ?_;refine eC ?_;refine aj ?_;exact av
  ·refine eC ?_;refine aj ?_;refine az [] (hc) ?_;exact av
end Go.Xg
namespace Go.Xg
open Go.RowKit Go.Xw Go.Proofs
open Go.Xp (Tok Nd T bb one levels Ar zb cm oz E S er aI wt ew pX dG bt)
open Go.Sp
attribute [local irreducible] GW GL GO YG GC GA aS aW
theorem dV {nd:Nd} {l l':List T} {k v:Int} {s:ah} (h:er (.mk nd l)=.mk ⟨k,0,v,s,[]⟩ l'):nd.kind=k/\nd.n=v/\nd.s=s/\aI l=l':=by
 rw [er] at h
 injection h with h1 h2
 injection h1 with a b c d e
 exact ⟨a,c,d,h2⟩
theorem vY {l:List T} {x:T} (h:aI l=[x]):∃ t,l=[t]/\er t=x:=by
 match l,h with
 | [t],h=>rw [aI,aI] at h;injection h with h1;exact ⟨t,rfl,h1⟩
 | [],h=>rw [aI] at h;cases h
 | t::u::r,h=>rw [aI,aI] at h;injection h with h1 h2;cases h2
theorem Cw {l:List T} {x y:T} (h:aI l=[x,y]):∃ t u,l=[t,u]/\er t=x/\er u=y:=by
 match l,h with
 | t::r,h =>
  rw [aI] at h;injection h with h1 h2
  obtain ⟨u,rfl,h3⟩:=vY h2;exact ⟨t,u,rfl,h1,h3⟩
 | [],h=>rw [aI] at h;cases h
theorem XA {l:List T} {x y z:T} (h:aI l=[x,y,z]):∃ t u w,l=[t,u,w]/\er t=x/\er u=y/\er w=z:=by
 match l,h with
 | t::r,h =>
  rw [aI] at h;injection h with h1 h2
  obtain ⟨u,w,rfl,h3,h4⟩:=Cw h2;exact ⟨t,u,w,rfl,h1,h3,h4⟩
 | [],h=>rw [aI] at h;cases h
theorem P6 {a:E} (h:a.ok=true) {t:T} (ht:er t=a.tree):mg t.n.kind t.n.s=(a.lv:Int):=by
 obtain ⟨nd,l⟩:=t
 cases a with
 | bin s a b =>
  obtain ⟨h1,_,h2,_⟩:=dV ht;simp only [E.ok,Bool.and_eq_true] at h;have h9:=(Go.Xp.oU h.1.1).1;simp only [T.n,h1,h2,mg,if_pos,E.lv];unfold dG at h9 |-
  cases hf:levels.findIdx? (fun l=>l.contains s) with
  | none=>rw [hf] at h9;exact absurd h9 (by decide)
  | some i=>rfl
 | num n=>obtain ⟨h1,_⟩:=dV ht;simp only [T.n,h1,mg];rfl
 | name n=>obtain ⟨h1,_⟩:=dV ht;simp only [T.n,h1,mg];rfl
 | at_ s a=>obtain ⟨h1,_⟩:=dV ht;simp only [T.n,h1,mg];rfl
 | call s a=>obtain ⟨h1,_⟩:=dV ht;simp only [T.n,h1,mg];rfl
 | un s a=>obtain ⟨h1,_⟩:=dV ht;simp only [T.n,h1,mg];rfl
theorem qD {a:E} (h:a.ok=true) {t:T} (ht:er t=a.tree):GF Tryz.prog 277 [.agg (cT t)] [] (.v (ii (a.lv:Int))) []:=by
 have:=Kk t;rw [P6 h ht] at this;exact this
theorem Da (n:Int) (h:0<=n/\n<=2147483647):GF Tryz.prog 278 [.v (ii n)] [] (.v (sv (cm n.toNat))) []:=by
 have hw:=S6 n
 have oc:zb n=n:=by unfold zb;rw [show n % 4294967296=n by omega,if_neg ae]
 rw [oc] at hw;have hd:=Ht n.toNat ae;rw [Int.toNat_of_nonneg h.1] at hd
 have h':decide (n < 0)=false:=by simpa using h.1
 refine ai Tryz.func278 Tryz.ntmps278 ?_;refine U [] (hw) ?_;refine U [] (hd) ?_;exact ao
abbrev lim:Nat:=1000000000000
def qV (a:E):Prop:=∀ (t:T) (k:Nat),a.ok=true->er t=a.tree->wt a.tree<=lim->¬ a.lv < k->GF Tryz.prog 252 [.agg (cT t),.v (ii (k:Int))] [] (.v (sv a.txt)) []
def nV (a:E):Prop:=∀ (t:T) (k:Nat),a.ok=true->er t=a.tree->wt a.tree<=lim->GF Tryz.prog 252 [.agg (cT t),.v (ii (k:Int))] [] (.v (sv (pX a.lv k a.txt))) []
theorem qV.p {a:E} (C:qV a):nV a:=by
 intro t k ho ht hb;unfold pX
 by_cases h:a.lv < k
 ·rw [if_pos h]
  have h':decide ((a.lv:Int) < (k:Int))=true:=by simpa using h
  have hl:=(E.len a ho).1;have h0:=C t 0 ho ht hb ae;have QL:=hb;unfold lim at QL;generalize a.txt=x at *;refine ai Tryz.func252 Tryz.ntmps252 ?_;refine U [] (qD ho ht) ?_;refine U [] (h0) ?_;exact ao
 ·rw [if_neg h];exact C t k ho ht hb h
theorem Nh (n:Int):qV (.num n):=by
 intro t k ho ht hb h
 have h':decide (((E.num n).lv:Int) < (k:Int))=false:=by simpa using h
 have hg:=qD ho ht;obtain ⟨⟨kk,aa,vv,ss,ks⟩,l⟩:=t;obtain ⟨h1,h2,h3,hl⟩:=dV ht;simp only at h1 h2 h3;subst h1 h2 h3;simp only [E.ok,Bool.and_eq_true] at ho;have hn:=Da vv ⟨of_decide_eq_true ho.1,of_decide_eq_true ho.2⟩;rw [E.txt];simp only [cT,T.n,T.kids] at hg |-;refine ai Tryz.func252 Tryz.ntmps252 ?_;refine U [] (hg) ?_;refine U [] (hn) ?_;exact ao
theorem Kr (s:ah):qV (.name s):=by
 intro t k ho ht hb h
 have h':decide (((E.name s).lv:Int) < (k:Int))=false:=by simpa using h
 have hg:=qD ho ht;obtain ⟨⟨kk,aa,vv,ss,ks⟩,l⟩:=t;obtain ⟨h1,h2,h3,hl⟩:=dV ht;simp only at h1 h2 h3;subst h1 h2 h3;rw [E.txt];simp only [cT,T.n,T.kids] at hg |-;refine ai Tryz.func252 Tryz.ntmps252 ?_;refine U [] (hg) ?_;exact ao
theorem Pv (s:ah) (a:E) (C:nV a):qV (.at_ s a):=by
 intro t k ho ht hb h
 have h':decide (((E.at_ s a).lv:Int) < (k:Int))=false:=by simpa using h
 have hg:=qD ho ht;obtain ⟨⟨kk,aa,vv,ss,ks⟩,l⟩:=t;obtain ⟨h1,h2,h3,hl⟩:=dV ht;simp only at h1 h2 h3;subst h1 h2 h3;obtain ⟨x,rfl,hx⟩:=vY hl;simp only [E.ok,Bool.and_eq_true] at ho;rw [E.tree,wt] at hb;simp only [ew,lim] at hb;have hc:=C x 0 ho.2 hx (by unfold lim;omega);unfold pX at hc;rw [if_neg ae] at hc;have hle:=(E.len a ho.2).1;have hr:(aL [x])[0]?=some (cT x):=cJ rfl;rw [E.txt];generalize a.txt=y at *;simp only [cT,T.n,T.kids] at hg |-;refine ai Tryz.func252 Tryz.ntmps252 ?_;refine U [] (hg) ?_;refine GW.draw (.q 0 (.q 1 (.q 2 (.q 3 (.q 4 (.q 5 (.q 6 (.q 7 (.a 8 (.q 9 (.q 10 (.q 11 .nil)))))))))))) (by kernel_rfl) (by kernel_rfl) ?_;refine aj ?_;refine az [] (hc) ?_;exact av
theorem Pw (s:ah) (a:E) (C:nV a):qV (.un s a):=by
 intro t k ho ht hb h
 have h':decide (((E.un s a).lv:Int) < (k:Int))=false:=by simpa using h
 have hg:=qD ho ht;obtain ⟨⟨kk,aa,vv,ss,ks⟩,l⟩:=t;obtain ⟨h1,h2,h3,hl⟩:=dV ht;simp only at h1 h2 h3;subst h1 h2 h3;obtain ⟨x,rfl,hx⟩:=vY hl;simp only [E.ok,Bool.and_eq_true] at ho;rw [E.tree,wt] at hb;simp only [ew,lim] at hb;have hc:=C x 9 ho.2 hx (by unfold lim;omega);have hle:=(E.len a ho.2).1;have AK:=Go.Xp.rZ a.lv 9 a.txt;have hr:(aL [x])[0]?=some (cT x):=cJ rfl;rw [E.txt];generalize pX a.lv 9 a.txt=y at *;simp only [cT,T.n,T.kids] at hg |-;refine ai Tryz.func252 Tryz.ntmps252 ?_;refine U [] (hg) ?_;refine GW.draw (.q 0 (.q 1 (.q 2 (.q 3 (.q 4 (.q 5 (.q 6 (.q 7 (.a 8 (.q 9 (.a 10 (.q 11 (.q 12 .nil))))))))))))) (by kernel_rfl) (by kernel_rfl) ?_;refine aj ?_;refine az [] (jk) ?_;refine az [] (hc) ?_;exact av
theorem Ng (s:ah) (a b:E) (Ca:nV a) (Cb:nV b):qV (.bin s a b):=by
 intro t k ho ht hb h
 have h':decide (((E.bin s a b).lv:Int) < (k:Int))=false:=by simpa using h
 have hg:=qD ho ht;obtain ⟨⟨kk,aa,vv,ss,ks⟩,l⟩:=t;obtain ⟨h1,h2,h3,hl⟩:=dV ht;simp only at h1 h2 h3;subst h1 h2 h3;obtain ⟨x,y,rfl,hx,hy⟩:=Cw hl;simp only [E.ok,Bool.and_eq_true] at ho;rw [E.tree,wt] at hb;simp only [ew,lim] at hb;have TL:=Ca x (dG ss) ho.1.2 hx (by unfold lim;omega);have zw:=Cb y (dG ss+1) ho.2 hy (by unfold lim;omega);have IA:=(Go.Xp.oU ho.1.1).1;have hle:=(E.len a ho.1.2).1;have AK:=Go.Xp.rZ a.lv (dG ss) a.txt;have X3:=(E.len b ho.2).1;have aan:=Go.Xp.rZ b.lv (dG ss+1) b.txt;have hr:(aL [x,y])[0]?=some (cT x):=cJ rfl;have c6:(aL [x,y])[1]?=some (cT y):=cJ rfl;rw [E.txt];simp only [E.lv] at hg h';generalize pX a.lv (dG ss) a.txt=u at *;generalize pX b.lv (dG ss+1) b.txt=w at *;simp only [cT,T.n,T.kids] at hg |-;refine ai Tryz.func252 Tryz.ntmps252 ?_;refine U [] (hg) ?_;refine U [] (hg) ?_;refine GW.draw (.q 0 (.q 1 (.q 2 (.q 3 (.q 4 (.q 7 (.q 8 (.q 9 (.q 12 (.q 13 (.q 14 (.q 15 (.q 16 (.q 17 (.a 5 (.q 6 (.q 10 (.q 11 (.a 18 (.q 19 (.q 20 .nil))))))))))))))))))))) (by kernel_rfl) (by kernel_rfl) ?_;refine aj ?_;refine az [] (TL) ?_;refine az [] (zw) ?_;exact av
end Go.Xg
namespace Go.Xg
open Go.RowKit Go.Xw Go.Proofs
open Go.Xp (Tok Nd T bb one levels Ar cm E S er aI wt ew pX dG bt BM wh)
open Go.Sp
attribute [local irreducible] GW GL GO YG GC GA aS aW
def JH (b:Bool) (a:E):Prop:=∀ t,er t=a.tree->GF Tryz.prog 218 [.agg (cT t),.v (.bool b)] [] (.v (sv (a.out b))) []
theorem L5:∀ {ts:List T} {es:List E} (h:aI ts=E.trees es),ts.length=es.length/\∀ (k:Nat) t a,ts[k]?=some t->es[k]?=some a->er t=a.tree
 | [],[],_=>⟨rfl,fun k t a h=>by simp at h⟩
 | [],a::l,h=>by rw [aI,E.trees] at h;cases h
 | t::r,[],h=>by rw [aI,E.trees] at h;cases h
 | t::r,a::l,h=>by
  rw [aI,E.trees] at h
  injection h with h1 h2
  obtain ⟨h3,h4⟩:=L5 h2;refine ⟨by simp [h3],fun k t' a' ht ha=>?_⟩
  cases k with
  | zero=>cases ht;cases ha;exact h1
  | succ k=>exact h4 k t' a' (by simpa using ht) (by simpa using ha)
theorem DJ (b:Bool) (es:List E) (C:∀ a∈es,JH b a) (ts:List T) (sR:aI ts=E.trees es) (hb:(bt (es.map (E.out b))).length<=lim) (hn:es.length<=lim) :
  GF Tryz.prog 279 [.sl 6 (aL ts),.v (.bool b)] [] (.v (sv (bt (es.map (E.out b))))) []:=by
 obtain ⟨hlen,wV⟩:=L5 sR;unfold lim at hb hn;refine ai Tryz.func279 Tryz.ntmps279 ?_;refine GW.range (aL ts).length (fun k fr Γ=>∃ y,fr=[.aaF,.v (.bool b),.aaF,.aaF,.aaF,.v (sv y),.aaF,.aaF,.sl 6 (aL ts),.v (ii ((aL ts).length:Int)),.v (ii (k:Nat)),.aaF,.aaF,.aaF,.aaF,.aaF,.aaF,.aaF,.aaF,.aaF,.aaF,.aaF,.aaF,.aaF,.aaF,.aaF]/\Γ=[]/\y=bt ((es.map (E.out b)).take k)) ?_ (by rw [aM];omega) ?_ ?_ ?_
 ·exact ⟨_,_,Wk.aw al,[],rfl,rfl,by simp [bt]⟩
 ·rintro k _ _ ⟨y,rfl,rfl,_⟩;exact ⟨rfl,rfl,rfl⟩
 ·rintro k _ _ hk ⟨y,rfl,rfl,hy⟩
  have hk:k < es.length:=by rw [aM,hlen] at hk;exact hk
  have wZ:k < ts.length:=by omega
  have hx:es[k]?=some es[k]:=by simp [hk]
  have ht:ts[k]?=some ts[k]:=by simp [wZ]
  have he:=wV k _ _ ht hx;have hr:=cJ ht;have hc:=C _ (mem_of_getElem? hx) _ he;have sM:=wh (es.map (E.out b)) (k+1);have XX:=wh (es.map (E.out b)) k
  have jJ:(es.map (E.out b)).take (k+1)=(es.map (E.out b)).take k++[es[k].out b]:=by
   rw [take_add_one,getElem?_map,hx];rfl
  rw [jJ] at sM;generalize ts[k]=t at *;generalize es[k]=a at *;generalize a.out b=x at *
  by_cases h0:k=0
  ·subst h0
   have sH:decide ((0:Int) < ((0:Nat):Int))=false:=by decide
   have hj:bt ((es.map (E.out b)).take 0++[x])=[]++x:=by simp [bt]
   have QQ:bt ((es.map (E.out b)).take 0)=[]:=by simp [bt]
   rw [QQ] at hy;subst hy;rw [hj] at sM
   have sM:x.length<=(bt (es.map (E.out b))).length:=by simpa using sM
   refine ab ?_;refine U [] (hc) ?_;exact ⟨rfl,rfl,_,_,(Wk.cut (n:=0) (Nat.le_of_ble_eq_true rfl) rfl).trans (Wk.aw al),_,rfl,rfl,by rw [jJ,hj]⟩
  ·have sH:decide ((0:Int) < (k:Int))=true:=by simpa using by omega
   have bK:(es.map (E.out b)).take k≠[]:=by
    intro h;rw [List.take_eq_nil_iff] at h
    rcases h with h | h
    ·exact h0 h
    ·rw [List.map_eq_nil_iff] at h;subst h;simp at hk
   have hj:=BM bK x;rw [hj] at sM;rw [<-hy] at sM hj XX;simp only [length_append,length_cons,length_nil] at sM;refine ab ?_;refine U [] (hc) ?_;exact ⟨rfl,rfl,_,_,(Wk.cut (n:=0) (Nat.le_of_ble_eq_true rfl) rfl).trans (Wk.aw al),_,rfl,rfl,by rw [jJ,hj]⟩
 ·rintro _ _ ⟨y,rfl,rfl,hy⟩;have:(es.map (E.out b)).take (aL ts).length=es.map (E.out b):=take_of_length_le (by rw [aM,hlen];simp);rw [this] at hy;subst hy;exact av
theorem nV.out {a:E} (C:nV a) (ho:a.ok=true) (hb:wt a.tree<=lim):JH true a:=by
 intro t ht;have h0:=C t 0 ho ht hb;unfold pX at h0;rw [if_neg ae] at h0;show GF _ _ _ _ (.v (sv a.txt)) _;refine ai Tryz.func218 Tryz.ntmps218 ?_;refine U [] (h0) ?_;exact ao
theorem C5:∀ l:List E,l.length<=ew (E.trees l)
 | []=>Nat.zero_le _
 | a::l=>by
  have:=C5 l;rw [E.trees,ew,length_cons]
  have:1<=wt a.tree:=by cases a <;> (rw [E.tree,wt];omega)
  omega
theorem C6:∀ {l:List E} {a:E},a∈l->wt a.tree<=ew (E.trees l)
 | [],_,h=>by cases h
 | b::l,a,h=>by
  rw [E.trees,ew]
  rcases List.mem_cons.1 h with rfl | h
  ·omega
  ·have:=C6 h;omega
theorem CO:∀ {l:List E} {a:E},E.cD l=true->a∈l->a.ok=true
 | [],_,_,h=>by cases h
 | b::l,a,ho,h=>by
  simp only [E.cD,Bool.and_eq_true] at ho
  rcases List.mem_cons.1 h with rfl | h
  ·exact ho.1
  ·exact CO ho.2 h
theorem Kq (s:ah) (es:List E) (C:∀ a∈es,nV a):qV (.call s es):=by
 intro t k ho ht hb h
 have h':decide (((E.call s es).lv:Int) < (k:Int))=false:=by simpa using h
 have hg:=qD ho ht;obtain ⟨⟨kk,aa,vv,ss,ks⟩,l⟩:=t;obtain ⟨h1,h2,h3,hl⟩:=dV ht;simp only at h1 h2 h3;subst h1 h2 h3;simp only [E.ok,Bool.and_eq_true] at ho;rw [E.tree,wt] at hb;have hle:=(E.lens es ho.2).1;have hn:=C5 es
 have FD:E.cy es=es.map (E.out true):=by rw [E.Qd];rfl
 have hj:=DJ true es (fun a ha=>(C a ha).out (CO ho.2 ha) (by have:=C6 ha;omega)) l hl (by rw [<-FD];omega) ae;rw [<-FD] at hj;unfold lim at hb;simp only at hb;rw [E.txt];generalize bt (E.cy es)=y at *;simp only [cT,T.n,T.kids] at hg |-;refine ai Tryz.func252 Tryz.ntmps252 ?_;refine U [] (hg) ?_;refine GW.draw (.q 0 (.q 1 (.q 2 (.q 3 (.q 4 (.q 5 (.a 6 (.q 7 (.q 8 (.q 9 .nil)))))))))) (by kernel_rfl) (by kernel_rfl) ?_;refine aj ?_;refine az [] (hj) ?_;exact av
mutual
theorem vl:∀ a:E,nV a
 | .num n=>(Nh n).p
 | .name s=>(Kr s).p
 | .at_ s a=>(Pv s a (vl a)).p
 | .call s l=>(Kq s l (IW l)).p
 | .un s a=>(Pw s a (vl a)).p
 | .bin s a b=>(Ng s a b (vl a) (vl b)).p
theorem IW:∀ l:List E,∀ a∈l,nV a
 | []=>fun a h=>by cases h
 | b::l=>fun a h=>by
  rcases List.mem_cons.1 h with h | h
  ·rw [h];exact vl b
  ·exact IW l a h
end
def lF (a:E):Prop:=∀ (t:T),a.ok=true->er t=a.tree->wt a.tree<=lim->GF Tryz.prog 253 [.agg (cT t)] [] (.v (sv a.full)) []
theorem lF.out {a:E} (C:lF a) (ho:a.ok=true) (hb:wt a.tree<=lim):JH false a:=by
 intro t ht;have h0:=C t ho ht hb;show GF _ _ _ _ (.v (sv a.full)) _;refine ai Tryz.func218 Tryz.ntmps218 ?_;refine U [] (h0) ?_;exact ao
theorem OY (n:Int):lF (.num n):=by
 intro t ho ht hb;obtain ⟨⟨kk,aa,vv,ss,ks⟩,l⟩:=t;obtain ⟨h1,h2,h3,hl⟩:=dV ht;simp only at h1 h2 h3;subst h1 h2 h3;simp only [E.ok,Bool.and_eq_true] at ho;have hn:=Da vv ⟨of_decide_eq_true ho.1,of_decide_eq_true ho.2⟩;rw [E.full];simp only [cT,T.n,T.kids];refine ai Tryz.func253 Tryz.ntmps253 ?_;refine U [] (hn) ?_;exact ao
theorem Mo (s:ah):lF (.name s):=by
 intro t ho ht hb;obtain ⟨⟨kk,aa,vv,ss,ks⟩,l⟩:=t;obtain ⟨h1,h2,h3,hl⟩:=dV ht;simp only at h1 h2 h3;subst h1 h2 h3;rw [E.full];simp only [cT,T.n,T.kids];refine ai Tryz.func253 Tryz.ntmps253 ?_;exact ao
theorem RZ (s:ah) (a:E) (C:lF a):lF (.at_ s a):=by
 intro t ho ht hb;obtain ⟨⟨kk,aa,vv,ss,ks⟩,l⟩:=t;obtain ⟨h1,h2,h3,hl⟩:=dV ht;simp only at h1 h2 h3;subst h1 h2 h3;obtain ⟨x,rfl,hx⟩:=vY hl;simp only [E.ok,Bool.and_eq_true] at ho;rw [E.tree,wt] at hb;simp only [ew,lim] at hb;have hc:=C x ho.2 hx (by unfold lim;omega);have hle:=(E.len a ho.2).2;have hr:(aL [x])[0]?=some (cT x):=cJ rfl;rw [E.full];generalize a.full=y at *;simp only [cT,T.n,T.kids] at |-;refine ai Tryz.func253 Tryz.ntmps253 ?_;refine GW.draw (.q 0 (.q 1 (.q 2 (.q 3 (.q 4 (.q 5 (.q 6 (.q 7 (.a 8 (.q 9 (.q 10 (.q 11 .nil)))))))))))) (by kernel_rfl) (by kernel_rfl) ?_;refine aj ?_;refine az [] (hc) ?_;exact av
theorem Mn (s:ah) (es:List E) (C:∀ a∈es,lF a):lF (.call s es):=by
 intro t ho ht hb;obtain ⟨⟨kk,aa,vv,ss,ks⟩,l⟩:=t;obtain ⟨h1,h2,h3,hl⟩:=dV ht;simp only at h1 h2 h3;subst h1 h2 h3;simp only [E.ok,Bool.and_eq_true] at ho;rw [E.tree,wt] at hb;have hle:=(E.lens es ho.2).2;have hn:=C5 es
 have FD:E.rP es=es.map (E.out false):=by rw [E.Mp];rfl
 have hj:=DJ false es (fun a ha=>(C a ha).out (CO ho.2 ha) (by have:=C6 ha;omega)) l hl (by rw [<-FD];omega) ae;rw [<-FD] at hj;unfold lim at hb;simp only at hb;rw [E.full];generalize bt (E.rP es)=y at *;simp only [cT,T.n,T.kids] at |-;refine ai Tryz.func253 Tryz.ntmps253 ?_;refine GW.draw (.q 0 (.q 1 (.q 2 (.q 3 (.q 4 (.q 5 (.a 6 (.q 7 (.q 8 (.q 9 .nil)))))))))) (by kernel_rfl) (by kernel_rfl) ?_;refine aj ?_;refine az [] (hj) ?_;exact av
theorem R0 (s:ah) (a:E) (C:lF a):lF (.un s a):=by
 intro t ho ht hb;obtain ⟨⟨kk,aa,vv,ss,ks⟩,l⟩:=t;obtain ⟨h1,h2,h3,hl⟩:=dV ht;simp only at h1 h2 h3;subst h1 h2 h3;obtain ⟨x,rfl,hx⟩:=vY hl;simp only [E.ok,Bool.and_eq_true] at ho;rw [E.tree,wt] at hb;simp only [ew,lim] at hb;have hc:=C x ho.2 hx (by unfold lim;omega);have hle:=(E.len a ho.2).2;have hr:(aL [x])[0]?=some (cT x):=cJ rfl;rw [E.full];generalize a.full=y at *;simp only [cT,T.n,T.kids] at |-;refine ai Tryz.func253 Tryz.ntmps253 ?_;refine GW.draw (.q 0 (.q 1 (.q 2 (.q 3 (.q 4 (.q 5 (.q 6 (.q 7 (.a 8 (.q 9 (.q 10 (.q 11 .nil)))))))))))) (by kernel_rfl) (by kernel_rfl) ?_;refine aj ?_;refine az [] (hc) ?_;exact av
theorem OX (s:ah) (a b:E) (Ca:lF a) (Cb:lF b):lF (.bin s a b):=by
 intro t ho ht hb;obtain ⟨⟨kk,aa,vv,ss,ks⟩,l⟩:=t;obtain ⟨h1,h2,h3,hl⟩:=dV ht;simp only at h1 h2 h3;subst h1 h2 h3;obtain ⟨x,y,rfl,hx,hy⟩:=Cw hl;simp only [E.ok,Bool.and_eq_true] at ho;rw [E.tree,wt] at hb;simp only [ew,lim] at hb;have TL:=Ca x ho.1.2 hx (by unfold lim;omega);have zw:=Cb y ho.2 hy (by unfold lim;omega);have hle:=(E.len a ho.1.2).2;have X3:=(E.len b ho.2).2;have hr:(aL [x,y])[0]?=some (cT x):=cJ rfl;have c6:(aL [x,y])[1]?=some (cT y):=cJ rfl;rw [E.full];generalize a.full=u at *;generalize b.full=w at *;simp only [cT,T.n,T.kids] at |-;refine ai Tryz.func253 Tryz.ntmps253 ?_;refine GW.draw (.q 0 (.q 1 (.q 2 (.q 3 (.q 7 (.q 8 (.q 9 (.q 12 (.q 13 (.q 14 (.q 15 (.a 4 (.q 5 (.q 6 (.q 10 (.q 11 (.a 16 (.q 17 (.q 18 (.q 19 .nil)))))))))))))))))))) (by kernel_rfl) (by kernel_rfl) ?_;refine aj ?_;refine az [] (TL) ?_;refine az [] (zw) ?_;exact av
mutual
theorem yI:∀ a:E,lF a
 | .num n=>OY n
 | .name s=>Mo s
 | .at_ s a=>RZ s a (yI a)
 | .call s l=>Mn s l (Mm l)
 | .un s a=>R0 s a (yI a)
 | .bin s a b=>OX s a b (yI a) (yI b)
theorem Mm:∀ l:List E,∀ a∈l,lF a
 | []=>fun a h=>by cases h
 | b::l=>fun a h=>by
  rcases List.mem_cons.1 h with h | h
  ·rw [h];exact yI b
  ·exact Mm l a h
end
theorem pH (b:Bool) {a:E} (ho:a.ok=true) (hb:wt a.tree<=lim):JH b a:=by
 cases b with
 | true=>exact (vl a).out ho hb
 | false=>exact (yI a).out ho hb
theorem iG (b:Bool) (a:E) (ho:a.ok=true):(a.out b).length+4<=wt a.tree:=by
 have:=E.len a ho
 cases b with
 | true=>exact this.1
 | false=>exact this.2
end Go.Xg
namespace Go.Xg
open Go.RowKit Go.Xw Go.Proofs
open Go.Xp (Tok Nd T bb one levels Ar cm E S er aI wt ew bA eM)
open Go.Sp
attribute [local irreducible] GW GL GO YG GC GA aS aW
theorem Jt (x:E->Go.Xp.ah):∀ (l:List S) (acc:Go.Xp.ah),acc.length<=(S.cy x acc l).length
 | [],acc=>by rw [S.cy];omega
 | a::l,acc=>by
  rw [S.cy];have:=Jt x l (acc++a.txt x++[32]);simp only [length_append,length_cons,length_nil] at this;omega
def mF (b:Bool) (s:S):Prop:=∀ t,s.ok=true->er t=s.tree->wt s.tree<=lim->GF Tryz.prog 190 [.agg (cT t),.v (.bool b)] [] (.v (sv (s.txt (E.out b)))) []
def uL (b:Bool) (l:List S):Prop:=∀ t,S.cD l=true->er t=bA l->wt (bA l)<=lim->GF Tryz.prog 190 [.agg (cT t),.v (.bool b)] [] (.v (sv (eM (E.out b) l))) []
theorem Jg:∀ {ts:List T} {es:List S} (h:aI ts=S.trees es),ts.length=es.length/\∀ (k:Nat) t a,ts[k]?=some t->es[k]?=some a->er t=a.tree
 | [],[],_=>⟨rfl,fun k t a h=>by simp at h⟩
 | [],a::l,h=>by rw [aI,S.trees] at h;cases h
 | t::r,[],h=>by rw [aI,S.trees] at h;cases h
 | t::r,a::l,h=>by
  rw [aI,S.trees] at h
  injection h with h1 h2
  obtain ⟨h3,h4⟩:=Jg h2;refine ⟨by simp [h3],fun k t' a' ht ha=>?_⟩
  cases k with
  | zero=>cases ht;cases ha;exact h1
  | succ k=>exact h4 k t' a' (by simpa using ht) (by simpa using ha)
theorem GR:∀ {l:List S} {a:S},a∈l->wt a.tree<=ew (S.trees l)
 | [],_,h=>by cases h
 | b::l,a,h=>by
  rw [S.trees,ew]
  rcases List.mem_cons.1 h with rfl | h
  ·omega
  ·have:=GR h;omega
theorem GQ:∀ l:List S,l.length<=ew (S.trees l)
 | []=>Nat.zero_le _
 | a::l=>by
  have:=GQ l;rw [S.trees,ew,length_cons]
  have:1<=wt a.tree:=by cases a <;> (rw [S.tree,wt];omega)
  omega
theorem GG:∀ {l:List S} {a:S},S.cD l=true->a∈l->a.ok=true
 | [],_,_,h=>by cases h
 | b::l,a,ho,h=>by
  simp only [S.cD,Bool.and_eq_true] at ho
  rcases List.mem_cons.1 h with rfl | h
  ·exact ho.1
  ·exact GG ho.2 h
theorem Ol (b:Bool) (s:Go.Xp.ah) (a:E):mF b (.var s a):=by
 intro t ho ht hb;obtain ⟨⟨kk,aa,vv,ss,ks⟩,l⟩:=t;obtain ⟨h1,h2,h3,hl⟩:=dV ht;simp only at h1 h2 h3;subst h1 h2 h3;obtain ⟨x0,rfl,oS⟩:=vY hl;simp only [S.ok,Bool.and_eq_true] at ho;rw [S.tree,wt] at hb;simp only [ew,lim] at hb;have py:=pH b (a:=a) ho.2 (by unfold lim;omega) x0 oS;have ve:=iG b a ho.2;have rj:(aL [x0])[0]?=some (cT x0):=cJ rfl;rw [S.txt];generalize a.out b=y0 at *;simp only [cT,T.n,T.kids];refine ai Tryz.func190 Tryz.ntmps190 ?_;refine GW.draw (.q 0 (.q 1 (.q 2 (.q 3 (.q 4 (.q 5 (.q 6 (.q 7 (.q 8 (.q 9 (.a 10 (.q 11 (.q 12 (.q 13 .nil)))))))))))))) (by kernel_rfl) (by kernel_rfl) ?_;refine aj ?_;refine az [] (py) ?_;exact av
theorem Oj (b:Bool) (s:Go.Xp.ah) (a:E):mF b (.set s a):=by
 intro t ho ht hb;obtain ⟨⟨kk,aa,vv,ss,ks⟩,l⟩:=t;obtain ⟨h1,h2,h3,hl⟩:=dV ht;simp only at h1 h2 h3;subst h1 h2 h3;obtain ⟨x0,rfl,oS⟩:=vY hl;simp only [S.ok,Bool.and_eq_true] at ho;rw [S.tree,wt] at hb;simp only [ew,lim] at hb;have py:=pH b (a:=a) ho.2 (by unfold lim;omega) x0 oS;have ve:=iG b a ho.2;have rj:(aL [x0])[0]?=some (cT x0):=cJ rfl;rw [S.txt];generalize a.out b=y0 at *;simp only [cT,T.n,T.kids];refine ai Tryz.func190 Tryz.ntmps190 ?_;refine GW.draw (.q 0 (.q 1 (.q 2 (.q 3 (.q 4 (.q 5 (.q 6 (.q 7 (.q 8 (.a 9 (.q 10 (.q 11 (.q 12 .nil))))))))))))) (by kernel_rfl) (by kernel_rfl) ?_;refine aj ?_;refine az [] (py) ?_;exact av
theorem Oh (b:Bool) (s:Go.Xp.ah) (a:E) (c:E):mF b (.put s a c):=by
 intro t ho ht hb;obtain ⟨⟨kk,aa,vv,ss,ks⟩,l⟩:=t;obtain ⟨h1,h2,h3,hl⟩:=dV ht;simp only at h1 h2 h3;subst h1 h2 h3;obtain ⟨x0,x1,rfl,oS,nK⟩:=Cw hl;simp only [S.ok,Bool.and_eq_true] at ho;rw [S.tree,wt] at hb;simp only [ew,lim] at hb;have py:=pH b (a:=a) ho.2.1 (by unfold lim;omega) x0 oS;have ve:=iG b a ho.2.1;have rj:(aL [x0,x1])[0]?=some (cT x0):=cJ rfl;have sJ:=pH b (a:=c) ho.2.2 (by unfold lim;omega) x1 nK;have eI:=iG b c ho.2.2;have fS:(aL [x0,x1])[1]?=some (cT x1):=cJ rfl;rw [S.txt];generalize a.out b=y0 at *;generalize c.out b=y1 at *;simp only [cT,T.n,T.kids];refine ai Tryz.func190 Tryz.ntmps190 ?_;refine GW.draw (.q 0 (.q 1 (.q 2 (.q 3 (.q 4 (.q 5 (.q 6 (.q 7 (.q 8 (.q 12 (.q 13 (.q 14 (.q 15 (.q 16 (.a 9 (.q 10 (.q 11 (.a 17 (.q 18 (.q 19 (.q 20 .nil))))))))))))))))))))) (by kernel_rfl) (by kernel_rfl) ?_;refine aj ?_;refine az [] (py) ?_;refine az [] (sJ) ?_;exact av
theorem Of (b:Bool) (c:E) (p:List S) (Cp:uL b p):mF b (.if1 c p):=by
 intro t ho ht hb;obtain ⟨⟨kk,aa,vv,ss,ks⟩,l⟩:=t;obtain ⟨h1,h2,h3,hl⟩:=dV ht;simp only at h1 h2 h3;subst h1 h2 h3;obtain ⟨x0,x1,rfl,oS,nK⟩:=Cw hl;simp only [S.ok,Bool.and_eq_true] at ho;rw [S.tree,wt] at hb;simp only [ew,lim] at hb;have py:=pH b (a:=c) ho.1 (by unfold lim;omega) x0 oS;have ve:=iG b c ho.1;have rj:(aL [x0,x1])[0]?=some (cT x0):=cJ rfl;have sJ:=Cp x1 ho.2 nK (by unfold lim bA;omega);have eI:=Go.Xp.rY (E.out b) (iG b) ho.2;rw [bA] at eI;have fS:(aL [x0,x1])[1]?=some (cT x1):=cJ rfl;rw [S.txt];generalize c.out b=y0 at *
 change GF _ _ _ _ (.v (sv _)) _ at sJ
 unfold eM at sJ eI;generalize S.cy (E.out b) [123,32] p++[125]=y1 at *;simp only [cT,T.n,T.kids];refine ai Tryz.func190 Tryz.ntmps190 ?_;refine GW.draw (.q 0 (.q 1 (.q 2 (.q 3 (.q 4 (.q 8 (.q 9 (.q 10 (.q 11 (.q 12 (.a 5 (.q 6 (.q 7 (.a 13 (.q 14 (.q 15 .nil)))))))))))))))) (by kernel_rfl) (by kernel_rfl) ?_;refine aj ?_;refine az [] (py) ?_;refine az [] (sJ) ?_;exact av
theorem Og (b:Bool) (c:E) (p:List S) (q:List S) (Cp:uL b p) (Cq:uL b q):mF b (.if2 c p q):=by
 intro t ho ht hb;obtain ⟨⟨kk,aa,vv,ss,ks⟩,l⟩:=t;obtain ⟨h1,h2,h3,hl⟩:=dV ht;simp only at h1 h2 h3;subst h1 h2 h3;obtain ⟨x0,x1,x2,rfl,oS,nK,IH⟩:=XA hl;simp only [S.ok,Bool.and_eq_true] at ho;rw [S.tree,wt] at hb;simp only [ew,lim] at hb;have py:=pH b (a:=c) ho.1 (by unfold lim;omega) x0 oS;have ve:=iG b c ho.1;have rj:(aL [x0,x1,x2])[0]?=some (cT x0):=cJ rfl;have sJ:=Cp x1 ho.2.1 nK (by unfold lim bA;omega);have eI:=Go.Xp.rY (E.out b) (iG b) ho.2.1;rw [bA] at eI;have fS:(aL [x0,x1,x2])[1]?=some (cT x1):=cJ rfl;have jt:=Cq x2 ho.2.2 IH (by unfold lim bA;omega);have jh:=Go.Xp.rY (E.out b) (iG b) ho.2.2;rw [bA] at jh;have c6:(aL [x0,x1,x2])[2]?=some (cT x2):=cJ rfl;rw [S.txt];generalize c.out b=y0 at *
 change GF _ _ _ _ (.v (sv _)) _ at sJ
 unfold eM at sJ eI;generalize S.cy (E.out b) [123,32] p++[125]=y1 at *
 change GF _ _ _ _ (.v (sv _)) _ at jt
 unfold eM at jt jh;generalize S.cy (E.out b) [123,32] q++[125]=y2 at *;simp only [cT,T.n,T.kids];refine ai Tryz.func190 Tryz.ntmps190 ?_;refine GW.draw (.q 0 (.q 1 (.q 2 (.q 3 (.q 4 (.q 8 (.q 9 (.q 10 (.q 11 (.q 12 (.a 5 (.q 6 (.q 7 (.a 13 (.q 14 (.q 15 .nil)))))))))))))))) (by kernel_rfl) (by kernel_rfl) ?_;refine aj ?_;refine az [] (py) ?_;refine az [] (sJ) ?_;refine ab ?_;refine U [] (jt) ?_;exact ao
theorem HR (b:Bool) (c:E) (p:List S) (Cp:uL b p):mF b (.while_ c p):=by
 intro t ho ht hb;obtain ⟨⟨kk,aa,vv,ss,ks⟩,l⟩:=t;obtain ⟨h1,h2,h3,hl⟩:=dV ht;simp only at h1 h2 h3;subst h1 h2 h3;obtain ⟨x0,x1,rfl,oS,nK⟩:=Cw hl;simp only [S.ok,Bool.and_eq_true] at ho;rw [S.tree,wt] at hb;simp only [ew,lim] at hb;have py:=pH b (a:=c) ho.1 (by unfold lim;omega) x0 oS;have ve:=iG b c ho.1;have rj:(aL [x0,x1])[0]?=some (cT x0):=cJ rfl;have sJ:=Cp x1 ho.2 nK (by unfold lim bA;omega);have eI:=Go.Xp.rY (E.out b) (iG b) ho.2;rw [bA] at eI;have fS:(aL [x0,x1])[1]?=some (cT x1):=cJ rfl;rw [S.txt];generalize c.out b=y0 at *
 change GF _ _ _ _ (.v (sv _)) _ at sJ
 unfold eM at sJ eI;generalize S.cy (E.out b) [123,32] p++[125]=y1 at *;simp only [cT,T.n,T.kids];refine ai Tryz.func190 Tryz.ntmps190 ?_;refine GW.draw (.q 0 (.q 1 (.q 2 (.q 3 (.q 4 (.q 8 (.q 9 (.q 10 (.q 11 (.q 12 (.a 5 (.q 6 (.q 7 (.a 13 (.q 14 (.q 15 .nil)))))))))))))))) (by kernel_rfl) (by kernel_rfl) ?_;refine aj ?_;refine az [] (py) ?_;refine az [] (sJ) ?_;exact av
theorem Oi (b:Bool) (a:E):mF b (.ret a):=by
 intro t ho ht hb;obtain ⟨⟨kk,aa,vv,ss,ks⟩,l⟩:=t;obtain ⟨h1,h2,h3,hl⟩:=dV ht;simp only at h1 h2 h3;subst h1 h2 h3;obtain ⟨x0,rfl,oS⟩:=vY hl;simp only [S.ok] at ho;rw [S.tree,wt] at hb;simp only [ew,lim] at hb;have py:=pH b (a:=a) ho (by unfold lim;omega) x0 oS;have ve:=iG b a ho;have rj:(aL [x0])[0]?=some (cT x0):=cJ rfl;rw [S.txt];generalize a.out b=y0 at *;simp only [cT,T.n,T.kids];refine ai Tryz.func190 Tryz.ntmps190 ?_;refine U [] (py) ?_;exact ao
theorem Qm (b:Bool) (a:E):mF b (.do_ a):=by
 intro t ho ht hb;obtain ⟨⟨kk,aa,vv,ss,ks⟩,l⟩:=t;obtain ⟨h1,h2,h3,hl⟩:=dV ht;simp only at h1 h2 h3;subst h1 h2 h3;obtain ⟨x0,rfl,oS⟩:=vY hl;simp only [S.ok] at ho;rw [S.tree,wt] at hb;simp only [ew,lim] at hb;have py:=pH b (a:=a) ho (by unfold lim;omega) x0 oS;have ve:=iG b a ho;have rj:(aL [x0])[0]?=some (cT x0):=cJ rfl;rw [S.txt];generalize a.out b=y0 at *;simp only [cT,T.n,T.kids];refine ai Tryz.func190 Tryz.ntmps190 ?_;refine U [] (py) ?_;exact ao
theorem rA (b:Bool) (es:List S) (C:∀ a∈es,mF b a):uL b es:=by
 intro t ho ht hb;obtain ⟨⟨kk,aa,vv,ss,ks⟩,l⟩:=t;obtain ⟨h1,h2,h3,hl⟩:=dV ht;simp only at h1 h2 h3;subst h1 h2 h3;obtain ⟨hlen,wV⟩:=Jg hl;have mu:=Go.Xp.rY (E.out b) (iG b) ho;rw [bA,wt] at hb;rw [bA,wt] at mu;have hn:=GQ es;unfold eM at mu |-;unfold lim at hb;simp only [length_append,length_cons,length_nil] at hb mu;simp only [cT,T.n,T.kids];refine ai Tryz.func190 Tryz.ntmps190 ?_;refine GW.range (aL l).length (fun k fr Γ=>∃ y,fr=[.aaF,.v (.bool b),.loc 0 0,.aaF,.aaF,.aaF,.v (sv y),.aaF,.aaF,.aaF,.aaF,.aaF,.aaF,.aaF,.aaF,.aaF,.aaF,.aaF,.aaF,.aaF,.aaF,.aaF,.aaF,.aaF,.aaF,.aaF,.aaF,.aaF,.aaF,.aaF,.aaF,.aaF,.aaF,.aaF,.aaF,.aaF,.aaF,.aaF,.aaF,.aaF,.aaF,.aaF,.aaF,.aaF,.aaF,.aaF,.aaF,.aaF,.aaF,.aaF,.aaF,.aaF,.aaF,.aaF,.aaF,.aaF,.aaF,.aaF,.aaF,.aaF,.aaF,.aaF,.aaF,.aaF,.aaF,.aaF,.aaF,.aaF,.aaF,.aaF,.aaF,.aaF,.aaF,.aaF,.aaF,.aaF,.aaF,.aaF,.aaF,.aaF,.aaF,.aaF,.aaF,.aaF,.aaF,.aaF,.aaF,.aaF,.aaF,.aaF,.aaF,.aaF,.aaF,.aaF,.aaF,.aaF,.aaF,.aaF,.aaF,.aaF,.aaF,.aaF,.aaF,.aaF,.aaF,.aaF,.aaF,.aaF,.aaF,.aaF,.aaF,.aaF,.aaF,.aaF,.aaF,.aaF,.aaF,.aaF,.aaF,.aaF,.aaF,.aaF,.aaF,.aaF,.aaF,.aaF,.aaF,.aaF,.aaF,.aaF,.aaF,.sl 6 (aL l),.v (ii ((aL l).length:Int)),.v (ii (k:Nat)),.aaF,.aaF,.aaF,.aaF,.aaF,.aaF,.aaF,.aaF,.aaF,.aaF,.aaF,.aaF]/\Γ=[.box 94 [.v (ii 14),.v (ii aa),.v (ii 0),.v (sv []),ints ks,.sl 6 (aL l)]]/\S.cy (E.out b) y (es.drop k)=S.cy (E.out b) [123,32] es) ?_ (by rw [aM];omega) ?_ ?_ ?_
 ·exact ⟨_,_,Wk.aw al,_,rfl,rfl,rfl⟩
 ·rintro k _ _ ⟨y,rfl,rfl,_⟩;exact ⟨rfl,rfl,rfl⟩
 ·rintro k _ _ hk ⟨y,rfl,rfl,hy⟩
  have hk:k < es.length:=by rw [aM,hlen] at hk;exact hk
  have wZ:k < l.length:=by omega
  have hx:es[k]?=some es[k]:=by simp [hk]
  have jJ:l[k]?=some l[k]:=by simp [wZ]
  have hr:=cJ jJ;rw [drop_eq_getElem_cons hk,S.cy] at hy;have hm:=mem_of_getElem? hx;have hc:=C _ hm _ (GG ho hm) (wV k _ _ jJ hx) (by have:=GR hm;unfold lim;omega);generalize l[k]=t at *;generalize hgx:es[k].txt (E.out b)=x at *;have kX:=Jt (E.out b) (es.drop (k+1)) (y++x++[32]);rw [hy] at kX;simp only [length_append,length_cons,length_nil] at kX;refine ab ?_;refine U [] (hc) ?_;exact ⟨rfl,rfl,_,_,(Wk.cut (n:=1) (Nat.le_of_ble_eq_true rfl) rfl).trans (Wk.aw al),_,rfl,rfl,hy⟩
 ·rintro _ _ ⟨y,rfl,rfl,hy⟩;rw [List.drop_of_length_le (by rw [aM,hlen];exact Nat.le_refl _),S.cy] at hy;subst hy;exact av
mutual
theorem Vp (b:Bool):∀ s:S,mF b s
 | .set s a=>Oj b s a
 | .put s a c=>Oh b s a c
 | .if1 c p=>Of b c p (rA b p (si b p))
 | .if2 c p q=>Og b c p q (rA b p (si b p)) (rA b q (si b q))
 | .while_ c p=>HR b c p (rA b p (si b p))
 | .ret a=>Oi b a
 | .do_ a=>Qm b a
 | .var s a=>Ol b s a
theorem si (b:Bool):∀ l:List S,∀ a∈l,mF b a
 | []=>fun a h=>by cases h
 | c::l=>fun a h=>by
  rcases List.mem_cons.1 h with h | h
  ·rw [h];exact Vp b c
  ·exact si b l a h
end
theorem Vo (b:Bool) (l:List S):uL b l:=rA b l (si b l)
end Go.Xg
namespace Go.Xg
open Go.RowKit Go.Xw Go.Proofs
open Go.Xp (Tok Nd T bb one levels Ar cm E S er aI wt ew bA eM ei)
open Go.Sp
attribute [local irreducible] GW GL GO YG GC GA aS aW
theorem M9 (p:Src) (hp:B5 p) (ls:List (List S)) (hb:Eu p ls):GF Tryz.prog 152 [.agg (ar p)] [] (.v (.bool (ls.all fun l=>ei l 1))) []:=by
 refine ai Tryz.func152 Tryz.ntmps152 ?_;refine GW.range (p.fns.map au).length (fun k fr Γ=>fr=[.aaF,.loc 0 0,.aaF,.aaF,.aaF,.aaF,.aaF,.aaF,.sl 3 (p.fns.map au),.v (ii ((p.fns.map au).length:Int)),.v (ii (k:Nat)),.aaF,.aaF,.aaF,.aaF,.aaF,.aaF,.aaF,.aaF,.aaF,.aaF,.aaF,.aaF,.aaF,.aaF,.aaF,.aaF,.aaF,.aaF,.aaF,.aaF,.aaF,.aaF,.aaF,.aaF,.aaF,.aaF,.aaF,.aaF,.aaF,.aaF,.aaF,.aaF,.aaF,.aaF]/\Γ=[.box 34 (ar p)]/\((ls.take k).all fun l=>ei l 1)=true) ?_ (by simpa using by have:=hp.fns.1;omega) ?_ ?_ ?_
 ·exact ⟨_,_,Wk.aw al,rfl,rfl,rfl⟩
 ·rintro k _ _ ⟨rfl,rfl,_⟩;exact ⟨rfl,rfl,rfl⟩
 ·rintro k _ _ hk ⟨rfl,rfl,hf⟩
  have hk:k < p.fns.length:=by simpa using hk
  have eH:k < ls.length:=by rw [hb.len];exact hk
  have hx:p.fns[k]?=some p.fns[k]:=by simp [hk]
  have zF:ls[k]?=some ls[k]:=by simp [eH]
  have hr:=BX hx;obtain ⟨h0,ho,hw,t,pD,Zp⟩:=hb.at_ k _ _ hx zF;have hs:=Ep p (fun n hn=>(hp.nodes.2 n hn).2) _ _ _ pD;rw [Int.toNat_of_nonneg h0] at hs;have FV:=Vo true ls[k] t ho Zp (by unfold lim;omega);obtain ⟨ts,t2,q,f,h1,h2,h3,h4,h5,h6,h7⟩:=RC ho hw;have jJ:=Na _ ts ae h1;have ZF:RS.ok ⟨ts,0,(eM E.txt ls[k]).length,0,0⟩:=⟨Nat.zero_le _,by simp only;omega⟩;have dr:=(sds f).block 1 _ t2 q ZF ae h5
  have ki:(E.out true)=E.txt:=by funext a;rfl
  rw [ki] at FV;generalize eM E.txt ls[k]=tx at *;generalize uB:ei ls[k] 1=fit at *;generalize p.fns[k]=x at *
  rcases h7 with ⟨h7,h8,rfl⟩ | ⟨h7,rfl⟩
  ·have sJ:(q.code != 0)=false:=by simpa using h7
   have jt:((q.i:Int) != ((q.l.map cU).length:Int))=false:=by rw [length_map,h6];simp [h8]
   refine ab ?_;refine U [] (hs) ?_;refine U [] (FV) ?_;refine U [] (jJ) ?_;refine U [2] (dr) ?_;refine GW.draw (.q 0 (.q 1 (.q 2 (.q 3 (.q 4 (.q 5 (.q 6 (.q 7 (.q 8 (.q 9 (.q 10 (.q 11 (.q 12 (.q 13 (.q 14 (.q 15 (.q 16 .nil))))))))))))))))) (by kernel_rfl) (by kernel_rfl) ?_;refine aj ?_;refine ab ?_;exact ⟨rfl,rfl,_,_,(Wk.cut (n:=1) (Nat.le_of_ble_eq_true rfl) rfl).trans (Wk.aw al),rfl,rfl,su zF hf uB⟩
  ·have sJ:(q.code != 0)=true:=by simpa using h7
   have aO:(ls.all fun l=>ei l 1)=false:=uN zF uB;rw [aO];refine ab ?_;refine U [] (hs) ?_;refine U [] (FV) ?_;refine U [] (jJ) ?_;refine U [2] (dr) ?_;refine GW.draw (.q 0 (.q 1 (.q 2 (.q 3 (.q 4 (.q 5 (.q 6 (.q 7 (.q 8 (.q 9 (.q 10 (.q 11 (.q 12 (.q 13 (.q 14 (.q 15 (.q 16 .nil))))))))))))))))) (by kernel_rfl) (by kernel_rfl) ?_;refine aj ?_;exact av
 ·rintro _ _ ⟨rfl,rfl,hf⟩;rw [take_of_length_le (by rw [length_map,hb.len];exact Nat.le_refl _)] at hf;rw [hf];exact av
theorem Lk (p:Src) (hp:B5 p) (h:nC p=some false):GF Tryz.prog 129 [.agg (ar p)] [] (.v (.bool false)) []:=by
 have hs:=BN p hp false h;refine ai Tryz.func129 Tryz.ntmps129 ?_;refine U [] (hs) ?_;exact ao
theorem Ln (p:Src) (hp:B5 p) (h:nC p=some true) (ls:List (List S)) (hb:Eu p ls):GF Tryz.prog 129 [.agg (ar p)] [] (.v (.bool (ls.all fun l=>ei l 1))) []:=by
 have hs:=BN p hp true h;have hf:=M9 p hp ls hb;generalize (ls.all fun l=>ei l 1)=b at *;refine ai Tryz.func129 Tryz.ntmps129 ?_;refine U [] (hs) ?_;refine U [] (hf) ?_;exact ao
end Go.Xg
namespace Go.Xg
open Go.RowKit Go.Xw Go.Proofs
open Go.Xp (Tok Nd T levels Ar E S er wt bA eM ei)
open Go.Sp
open Go.Im
attribute [local irreducible] GW GL GO YG GC GA aS aW
theorem SJ {p:Src} (hw:cM p<=1048576):B5 p:=by
 obtain ⟨⟨a1,a2⟩,⟨b1,b2⟩,⟨c1,c2⟩,⟨d1,d2⟩⟩:=cW p;exact ⟨⟨by omega,fun s hs=>by have:=a2 s hs;omega⟩,⟨by omega,fun s hs=>by have:=b2 s hs;omega⟩,⟨by omega,fun f hf=>by obtain ⟨e1,e2,e3⟩:=c2 f hf;exact ⟨by omega,by omega,fun s hs=>by have:=e3 s hs;omega⟩⟩,⟨by omega,fun n hn=>by obtain ⟨e1,e2⟩:=d2 n hn;exact ⟨by omega,by omega⟩⟩⟩
theorem Ll (p:Src) (hw:cM p<=1048576):GF Tryz.prog 129 [.agg (ar p)] [] (.v (.bool (fI p))) []:=by
 have iC:=SJ hw;obtain ⟨b,hb⟩:=KY p
 cases b with
 | false=>rw [XE hb];exact Lk p iC hb
 | true =>
  obtain ⟨l,hl⟩:=SL hb;obtain ⟨ls,hf⟩:=hl.JX;rw [XF hl hf];exact Ln p iC hb ls (LD hl hf hw)
end Go.Xg
namespace Go.Xg
open Go.RowKit Go.Xw Go.Proofs
open Go.Xp (Tok Nd T)
open Go.Sp (Src)
open Go.Im (nL pU tr gW cL fH uC)
attribute [local irreducible] GW GL GO YG GC GA aS aW
mutual
def tT:T->GV
 | .mk n l=>.box [.v (ii n.kind),.v (ii n.at_),.v (ii n.n),.v (sv n.s),ints n.kids,.sl 1 (bW l)] 0
def bW:List T->List (List GV)
 | []=>[]
 | t::r=>[tT t]::bW r
end
abbrev uT (t:T):GV:=.box [.v (ii t.n.kind),.v (ii t.n.at_),.v (ii t.n.n),.v (sv t.n.s),ints t.n.kids,.sl 1 (bW t.kids)] 0
theorem WD (t:T):tT t=uT t:=by cases t;rw [tT];rfl
theorem jV (l:List T):bW l=l.map fun t=>[uT t]:=by
 induction l with
 | nil=>rfl
 | cons t l ih=>rw [bW,ih,WD];rfl
theorem qC (l:List T):(bW l).length=l.length:=by rw [jV];simp
theorem Jo (l:List T) (t:T):bW (l++[t])=bW l++[[uT t]]:=by rw [jV,jV];simp
theorem vC {l:List T} {i:Nat} {t:T} (h:l[i]?=some t):(bW l)[i]?=some [uT t]:=by rw [jV,getElem?_map,h];rfl
def trG:Option (T × Nat)->GV
 | none=>.tup [.aaF,.aaF,.v (.bool false)]
 | some (t,e)=>.tup [uT t,.v (ii (e:Nat)),.v (.bool true)]
theorem Qc (nodes:List Nd) (hl:nodes.length<=1099511627776) (hk:∀ n∈nodes,n.kids.length<=1099511627776):∀ (f a:Nat),nodes.length - a+1<=f->a<=1099511627776 ->
  GF Tryz.prog 193 [.sl 5 (nodes.map ax),.v (ii (a:Nat))] [] (trG (nL nodes f a)) []:=by
 intro f
 induction f with
 | zero=>intro a h;omega
 | succ f ih =>
 intro a hf ha;rw [nL]
 cases hn:nodes[a]? with
 | none =>
  have kX:nodes.length<=a:=List.getElem?_eq_none_iff.1 hn
  have hd:decide (((nodes.map ax).length:Int)<=(a:Int))=true:=by simpa using kX
  refine ai Tryz.func193 Tryz.ntmps193 ?_;refine qG ?_;exact ⟨_,iL,rfl,rfl⟩
 | some n =>
  have aq:=(List.getElem?_eq_some_iff.1 hn).1
  have hd:decide (((nodes.map ax).length:Int)<=(a:Int))=false:=by simpa using aq
  have hr:(nodes.map ax)[a]?=some (ax n):=by rw [getElem?_map,hn];rfl
  have oa:=hk n (mem_of_getElem? hn);simp only;generalize hR:pU (nL nodes f) n.kids (a+1) []=R;refine ai Tryz.func193 Tryz.ntmps193 ?_;refine GW.wk (Wk.KB (i:=0) (o:=5) 152 1 rfl rfl) ?_
  refine GW.range (n.kids.map fun i=>[GV.v (ii i)]).length (fun k fr Γ=>∃ next acc m rows,fr=[.sl 5 (nodes.map ax),.v (ii (a:Nat)),.aaF,.aaF,.aaF,.aaF,.aaF,.loc 0 0,.v (ii (next:Nat)),.aaF,.aaF,.aaF,.aaF,.aaF,.aaF,.aaF,.aaF,.aaF,.aaF,.aaF,.aaF,.aaF,.aaF,.aaF,.aaF,.aaF,.aaF,.aaF,.aaF,.aaF,ints n.kids,.v (ii ((n.kids.map fun i=>[GV.v (ii i)]).length:Int)),.v (ii (k:Nat)),.aaF,.aaF,.aaF,.aaF,.aaF,.aaF,.aaF,.aaF,.aaF,.aaF,.aaF,.aaF,.aaF,.aaF,.aaF,.aaF,.aaF,.aaF,.aaF,.aaF,.aaF,.aaF,.aaF,.aaF,.aaF,.aaF,.aaF,.aaF,.aaF,.aaF,.aaF,.aaF,.aaF,.aaF,.aaF] /\
   Γ=[.box 190 [.v (ii n.kind),.v (ii n.at_),.v (ii n.n),.v (sv n.s),ints n.kids,.vec 1 m],.vec 152 1 0 rows]/\rows.length=m/\rows=bW acc/\m=k/\a+1<=next/\next<=nodes.length/\pU (nL nodes f) (n.kids.drop k) next acc=R) ?_ (by simpa using oa) ?_ ?_ ?_
  ·exact ⟨_,_,Wk.aw al,a+1,[],0,[],rfl,rfl,rfl,rfl,rfl,Nat.le_refl _,aq,hR⟩
  ·rintro k _ _ ⟨next,acc,m,rows,rfl,rfl,_⟩;exact ⟨rfl,rfl,rfl⟩
  ·rintro k _ _ eH ⟨next,acc,m,rows,rfl,rfl,hm,bp,sO,IB,ri,h⟩
   have eH:k < n.kids.length:=by simpa using eH
   have cP:n.kids[k]?=some n.kids[k]:=by simp [eH]
   have pA:(n.kids.map fun i=>[GV.v (ii i)])[k]?=some [.v (ii n.kids[k])]:=by rw [getElem?_map,cP];rfl
   rw [drop_eq_getElem_cons eH,pU] at h;generalize n.kids[k]=z at *
   by_cases hz:z=(next:Int)
   ·rw [if_pos hz] at h;subst hz
    have Xd:((next:Int) != (next:Int))=false:=by simp
    have Dv:=ih next ae ae
    cases hq:nL nodes f next with
    | none =>
     rw [hq] at h Dv;subst h;refine ab ?_;refine U [] (Dv) ?_;refine qG ?_;exact ⟨_,iL,rfl,rfl⟩
    | some x =>
     obtain ⟨t,e⟩:=x;rw [hq] at h Dv;simp only at h
     obtain ⟨s1,s2,_,_⟩:=Go.Im.A5 f next t e hq
     refine ab ?_;refine U [] (Dv) ?_;refine ea ?_;refine ab ?_;exact ⟨rfl,rfl,_,_,Wk.aw al,e,acc++[t],_,_,rfl,rfl,by simp [hm],by rw [Jo,bp],by omega,by omega,s2,h⟩
   ·rw [if_neg hz] at h;subst h
    have Xd:(z != (next:Int))=true:=by simpa using hz
    refine ab ?_;refine qG ?_;exact ⟨_,iL,rfl,rfl⟩
  ·rintro _ _ ⟨next,acc,m,rows,rfl,rfl,hm,bp,sO,IB,ri,h⟩;rw [show n.kids.drop (n.kids.map fun i=>[GV.v (ii i)]).length=[] by simp,pU] at h;subst h;simp only;subst bp;refine aD ?_;refine GW.wk (Wk.yZ (i:=0) (o:=5) (j:=1) rfl rfl rfl rfl hm) ?_
   by_cases h0:n.at_ < 0
   ·rw [if_pos h0]
    have sH:decide ((0:Int)<=n.at_)=false:=by simpa using h0
    refine ab ?_;refine GW.draw (.q 0 (.q 1 (.q 2 (.q 3 (.q 4 (.q 5 (.q 6 (.q 7 (.q 8 (.q 9 (.q 10 .nil))))))))))) (by kernel_rfl) (by kernel_rfl) ?_;refine aj ?_;refine ab ?_;rw [sH];refine GW.wk (Wk.freeze (i:=0) rfl rfl rfl (Nat.le_refl _)) ?_;refine qG ?_;exact ⟨_,iL,rfl,rfl⟩
   ·rw [if_neg h0]
    have sH:decide ((0:Int)<=n.at_)=true:=by simpa using h0
    refine ab ?_;refine GW.draw (.q 0 (.q 1 (.q 2 (.q 3 (.q 4 (.q 5 (.q 6 (.q 7 (.q 8 (.q 9 (.q 10 .nil))))))))))) (by kernel_rfl) (by kernel_rfl) ?_;refine aj ?_;refine ab ?_;rw [sH];refine GW.wk (Wk.freeze (i:=0) rfl rfl rfl (Nat.le_refl _)) ?_;refine Ju ?_;exact ⟨rfl,rfl⟩
def Cn (nodes:List Nd):Option (List T × Nat)->GV
 | none=>.tup [.aaF,.v (.bool false)]
 | some (l,e)=>.tup [.sl 1 (bW l),.v (.bool ((e:Int)==(nodes.length:Int)))]
theorem vQ (p:Src) (hl:p.nodes.length<=1099511627776) (hk:∀ n∈p.nodes,n.kids.length<=1099511627776) (hf:p.fns.length<=1099511627776) :
  GF Tryz.prog 155 [.agg (ar p)] [] (Cn p.nodes (gW p.nodes p.fns 0 [])) []:=by
 generalize hR:gW p.nodes p.fns 0 []=R;refine ai Tryz.func155 Tryz.ntmps155 ?_;refine GW.wk (Wk.CN (t:=4) (a:=none) (c:=0) 152 1 rfl) ?_
 refine GW.range (p.fns.map au).length (fun k fr Γ=>∃ next acc m rows,fr=[.aaF,.loc 0 0,.aaF,.aaF,.vec 1 m,.v (ii (next:Nat)),.aaF,.aaF,.aaF,.aaF,.aaF,.aaF,.sl 3 (p.fns.map au),.v (ii ((p.fns.map au).length:Int)),.v (ii (k:Nat)),.aaF,.aaF,.aaF,.aaF,.aaF,.aaF,.aaF,.aaF,.aaF,.aaF,.aaF,.aaF,.aaF,.aaF,.aaF,.aaF,.aaF,.aaF,.aaF,.aaF,.aaF,.aaF,.aaF,.aaF,.aaF,.aaF,.aaF,.aaF,.aaF,.aaF,.aaF] /\
  Γ=[.box 34 (ar p),.vec 152 1 0 rows]/\rows.length=m/\rows=bW acc/\m=k/\next<=p.nodes.length/\gW p.nodes (p.fns.drop k) next acc=R) ?_ (by simpa using hf) ?_ ?_ ?_
 ·exact ⟨_,_,Wk.aw al,0,[],0,[],rfl,rfl,rfl,rfl,rfl,Nat.zero_le _,hR⟩
 ·rintro k _ _ ⟨next,acc,m,rows,rfl,rfl,_⟩;exact ⟨rfl,rfl,rfl⟩
 ·rintro k _ _ eH ⟨next,acc,m,rows,rfl,rfl,hm,bp,sO,ri,h⟩
  have eH:k < p.fns.length:=by simpa using eH
  have cP:p.fns[k]?=some p.fns[k]:=by simp [eH]
  have pA:(p.fns.map au)[k]?=some (au p.fns[k]):=by rw [getElem?_map,cP];rfl
  rw [drop_eq_getElem_cons eH,gW] at h;generalize p.fns[k]=fn at *
  have MS:=Qc p.nodes hl hk (p.nodes.length+1) next ae ae
  unfold tr at h
  cases hq:nL p.nodes (p.nodes.length+1) next with
  | none =>
   rw [hq] at h MS;subst h;refine ab ?_;refine U [] (MS) ?_;refine G3 ?_;exact ⟨_,iL,rfl,rfl⟩
  | some x =>
   obtain ⟨t,e⟩:=x;rw [hq] at h MS;simp only at h
   obtain ⟨s1,s2,_,_⟩:=Go.Im.A5 _ next t e hq
   by_cases hb:fn.body=(next:Int)
   ·rw [if_pos hb] at h
    have bg:(fn.body != (next:Int))=false:=by simpa using hb
    refine ab ?_;refine U [] (MS) ?_;refine ea ?_;refine ab ?_;exact ⟨rfl,rfl,_,_,(Wk.cut (n:=2) (Nat.zero_le _) rfl).trans (Wk.aw al),e,acc++[t],_,_,rfl,rfl,by simp [hm],by rw [Jo,bp],by omega,s2,h⟩
   ·rw [if_neg hb] at h;subst h
    have bg:(fn.body != (next:Int))=true:=by simpa using hb
    refine ab ?_;refine U [] (MS) ?_;refine G3 ?_;exact ⟨_,iL,rfl,rfl⟩
 ·rintro _ _ ⟨next,acc,m,rows,rfl,rfl,hm,bp,sO,ri,h⟩;rw [show p.fns.drop (p.fns.map au).length=[] by simp,gW] at h;subst h;subst bp;refine aD ?_;refine GW.wk (Wk.iv (t:=4) rfl rfl rfl hm) ?_
  have TZ:p.nodes.length=(p.nodes.map ax).length:=by simp
  unfold Cn;rw [TZ];refine ab ?_;refine GW.draw (.q 0 (.q 1 (.q 2 (.q 3 (.q 4 (.q 5 (.q 6 (.q 7 .nil)))))))) (by kernel_rfl) (by kernel_rfl) ?_;refine aj ?_;exact qF
end Go.Xg
namespace Go.Xg
open Go.RowKit Go.Xw Go.Proofs
open Go.Xp (Tok Nd T bb one levels fY dF dY dh cY)
open Go.Sp
attribute [local irreducible] GW GL GO YG GC GA aS aW
structure PX where
 a:Value
 b:Value
 c:Value
 d:Value
 e:Value
abbrev bD (p:RS) (x:PX):Ob:=.box 208 [ic p.l,.v (ii p.i),.v (ii p.e),.v (ii p.code),.v (ii p.at_),.v x.a,.v x.b,.v x.c,.v x.d,.v x.e]
theorem qU (p:RS) (k:Nat) (x:PX) (hp:p.ok) (hk:k<=1):GF Tryz.prog 241 [.loc 0 0,.v (ii (k:Nat))] [bD p x] (.agg (cU (Go.Im.tok p k))) [bD p x]:=by
 obtain ⟨ji,dA⟩:=hp;unfold Go.Im.tok
 cases ht:p.l[p.i+k]? with
 | some t =>
  have hr:=jT ht;have aq:p.i+k < p.l.length:=(List.getElem?_eq_some_iff.1 ht).1
  have hd:decide (((p.l.map cU).length:Int)<=((p.i+k:Nat):Int))=false:=by simpa using by omega
  refine ai Tryz.func241 Tryz.ntmps241 ?_;refine GW.draw (.q 0 (.q 1 (.q 2 (.q 3 (.q 4 (.q 5 (.q 6 (.q 7 (.q 8 (.q 9 (.q 10 (.q 11 .nil)))))))))))) (by kernel_rfl) (by kernel_rfl) ?_;refine aj ?_;refine ab ?_;refine GW.draw (.q 0 (.q 1 (.q 2 (.q 3 (.q 4 (.q 5 (.q 6 (.q 7 (.q 8 (.q 9 (.q 10 (.q 11 (.a 12 .nil))))))))))))) (by kernel_rfl) (by kernel_rfl) ?_;refine aj ?_;exact oH
 | none =>
  have aq:p.l.length<=p.i+k:=List.getElem?_eq_none_iff.1 ht
  have hd:decide (((p.l.map cU).length:Int)<=((p.i+k:Nat):Int))=true:=by simpa using by omega
  refine ai Tryz.func241 Tryz.ntmps241 ?_;refine GW.draw (.q 0 (.q 1 (.q 2 (.q 3 (.q 4 (.q 5 (.q 6 (.q 7 (.q 8 (.q 9 (.q 10 (.q 11 .nil)))))))))))) (by kernel_rfl) (by kernel_rfl) ?_;refine aj ?_;exact oH
theorem Fa (p:RS) (c a:Int) (x:PX):GF Tryz.prog 270 [.loc 0 0,.v (ii c),.v (ii a)] [bD p x] (.tup []) [bD (p.fail c a) x]:=by
 unfold RS.fail
 by_cases h:p.code=0
 ·have h':(p.code==0)=true:=by simpa using h
  rw [if_pos h];refine ai Tryz.func270 Tryz.ntmps270 ?_;exact fP
 ·have h':(p.code==0)=false:=by simpa using h
  rw [if_neg h];refine ai Tryz.func270 Tryz.ntmps270 ?_;exact fP
theorem za (p:RS) (x:PX) (hp:p.ok):GF Tryz.prog 242 [.loc 0 0] [bD p x] (.tup []) [bD (Go.Im.jH p) x]:=by
 have ht:=qU p 0 x hp (by decide);unfold Go.Im.jH;generalize Go.Im.tok p 0=t at *;have hf:=Fa p 7 t.at_ x;refine ai Tryz.func242 Tryz.ntmps242 ?_;refine U [0] (ht) ?_;refine U [0] (hf) ?_;exact fP
theorem vX (p:RS) (d:Nat) (x:PX) (hp:p.ok):GF Tryz.prog 272 [.loc 0 0,.v (ii (d:Nat))] [bD p x] (.v (.bool ((Go.Im.bE p d).code==0))) [bD (Go.Im.bE p d) x]:=by
 have ht:=qU p 0 x hp (by decide);unfold Go.Im.bE;generalize Go.Im.tok p 0=t at *
 by_cases h:d > 60
 ·have h':decide ((60:Int) < (d:Int))=true:=by simpa using by omega
  rw [if_pos h];have hf:=Fa p 9 t.at_ x;generalize p.fail 9 t.at_=q at *;refine ai Tryz.func272 Tryz.ntmps272 ?_;refine U [0] (ht) ?_;refine U [0] (hf) ?_;exact ao
 ·have h':decide ((60:Int) < (d:Int))=false:=by simpa using by omega
  rw [if_neg h];refine ai Tryz.func272 Tryz.ntmps272 ?_;exact ao
theorem jx (p:RS) (k:Nat) (s:ah) (x:PX) (hp:p.ok) (hk:k<=1):GF Tryz.prog 239 [.loc 0 0,.v (ii (k:Nat)),.v (sv s)] [bD p x] (.v (.bool (Go.Im.is p k s))) [bD p x]:=by
 have ht:=qU p k x hp hk;unfold Go.Im.is;generalize Go.Im.tok p k=t at *
 cases h:(t.kind==3) with
 | true =>
  rw [Bool.true_and];refine ai Tryz.func239 Tryz.ntmps239 ?_;refine U [0] (ht) ?_;exact ao
 | false =>
  rw [Bool.false_and];refine ai Tryz.func239 Tryz.ntmps239 ?_;refine U [0] (ht) ?_;exact ao
theorem qw (p:RS) (x:PX) (hp:p.ok):GF Tryz.prog 240 [.loc 0 0] [bD p x] (.v (sv (Go.Im.tok p 0).s)) [bD (Go.Im.be p) x]:=by
 have ht:=qU p 0 x hp (by decide);have hw:=za p x hp;have Uc:=hp.2;have Dz:=hp.1;unfold Go.Im.be;generalize Go.Im.tok p 0=t at *;have hf:=Fa p 8 t.at_ x
 by_cases hc:p.code=0
 ·have df:(p.code != 0)=false:=by simpa using hc
  rw [if_pos hc]
  by_cases h2:t.kind=2
  ·have p7:(t.kind != 2)=false:=by simpa using h2
   rw [if_pos h2]
   by_cases hl:t.s.length > 12
   ·have iX:decide ((12:Int) < (t.s.length:Int))=true:=by simpa using by omega
    rw [if_pos hl];refine ai Tryz.func240 Tryz.ntmps240 ?_;refine U [0] (ht) ?_;refine U [0] (hf) ?_;exact ao
   ·have iX:decide ((12:Int) < (t.s.length:Int))=false:=by simpa using by omega
    rw [if_neg hl];refine ai Tryz.func240 Tryz.ntmps240 ?_;refine U [0] (ht) ?_;exact ao
  ·have p7:(t.kind != 2)=true:=by simpa using h2
   rw [if_neg h2];refine ai Tryz.func240 Tryz.ntmps240 ?_;refine U [0] (ht) ?_;refine U [0] (hw) ?_;exact ao
 ·have df:(p.code != 0)=true:=by simpa using hc
  rw [if_neg hc];refine ai Tryz.func240 Tryz.ntmps240 ?_;refine U [0] (ht) ?_;exact ao
theorem eD (p:RS) (s:ah) (x:PX) (hp:p.ok):GF Tryz.prog 243 [.loc 0 0,.sl 1 [[.v (sv s)]]] [bD p x] (.tup []) [bD (Go.Im.want p s) x]:=by
 have hi:=jx p 0 s x hp (by decide);have hw:=za p x hp;have Uc:=hp.2;have Dz:=hp.1;unfold Go.Im.want;generalize Go.Im.jH p=q at *;have hr:([[GV.v (sv s)]]:List (List GV))[0]?=some [.v (sv s)]:=rfl;refine ai Tryz.func243 Tryz.ntmps243 ?_
 by_cases hc:p.code=0
 ·have df:(p.code != 0)=false:=by simpa using hc
  rw [if_pos hc]
  cases h:Go.Im.is p 0 s with
  | true =>
   rw [h] at hi;rw [if_pos rfl];refine GW.range 1 (fun k fr Γ=>fr=[.loc 0 0,.aaF,.aaF,.aaF,.aaF,.aaF,.sl 1 [[.v (sv s)]],.v (ii ((1:Nat):Int)),.v (ii (k:Nat)),.aaF,.aaF,.aaF,.aaF,.aaF,.aaF,.aaF,.aaF,.aaF,.aaF,.aaF,.aaF,.aaF,.aaF,.aaF,.aaF,.aaF,.aaF,.aaF,.aaF,.aaF,.aaF]/\((k=0/\Γ=[bD p x])\/(1<=k/\Γ=[bD p.next x]))) ?_ (by decide) ?_ ?_ ?_
   ·exact ⟨_,_,Wk.aw al,rfl,.inl ⟨rfl,rfl⟩⟩
   ·rintro k _ _ ⟨rfl,_⟩;exact ⟨rfl,rfl,rfl⟩
   ·rintro k _ _ hk ⟨rfl,⟨rfl,rfl⟩ | ⟨h1,_⟩⟩
    ·refine ab ?_;refine U [0] (hi) ?_;exact ⟨rfl,rfl,_,_,Wk.aw al,rfl,.inr ⟨Nat.le_refl _,rfl⟩⟩
    ·omega
   ·rintro _ _ ⟨rfl,⟨h1,_⟩ | ⟨_,rfl⟩⟩
    ·cases h1
    ·exact lQ
  | false =>
   rw [h] at hi;rw [if_neg (by decide)];refine GW.range 1 (fun k fr Γ=>fr=[.loc 0 0,.aaF,.aaF,.aaF,.aaF,.aaF,.sl 1 [[.v (sv s)]],.v (ii ((1:Nat):Int)),.v (ii (k:Nat)),.aaF,.aaF,.aaF,.aaF,.aaF,.aaF,.aaF,.aaF,.aaF,.aaF,.aaF,.aaF,.aaF,.aaF,.aaF,.aaF,.aaF,.aaF,.aaF,.aaF,.aaF,.aaF]/\k=0/\Γ=[bD p x]) ?_ (by decide) ?_ ?_ ?_
   ·exact ⟨_,_,Wk.aw al,rfl,rfl,rfl⟩
   ·rintro k _ _ ⟨rfl,_⟩;exact ⟨rfl,rfl,rfl⟩
   ·rintro k _ _ hk ⟨rfl,rfl,rfl⟩;refine ab ?_;refine U [0] (hi) ?_;refine U [0] (hw) ?_;exact fP
   ·rintro _ _ ⟨rfl,h1,_⟩;cases h1
 ·have df:(p.code != 0)=true:=by simpa using hc
  rw [if_neg hc];refine GW.range 1 (fun k fr Γ=>fr=[.loc 0 0,.aaF,.aaF,.aaF,.aaF,.aaF,.sl 1 [[.v (sv s)]],.v (ii ((1:Nat):Int)),.v (ii (k:Nat)),.aaF,.aaF,.aaF,.aaF,.aaF,.aaF,.aaF,.aaF,.aaF,.aaF,.aaF,.aaF,.aaF,.aaF,.aaF,.aaF,.aaF,.aaF,.aaF,.aaF,.aaF,.aaF]/\k=0/\Γ=[bD p x]) ?_ (by decide) ?_ ?_ ?_
  ·exact ⟨_,_,Wk.aw al,rfl,rfl,rfl⟩
  ·rintro k _ _ ⟨rfl,_⟩;exact ⟨rfl,rfl,rfl⟩
  ·rintro k _ _ hk ⟨rfl,rfl,rfl⟩;exact lQ
  ·rintro _ _ ⟨rfl,h1,_⟩;cases h1
end Go.Xg
namespace Go.Xg
open Go.RowKit Go.Xw Go.Proofs
open Go.Xp (Tok Nd T bb one levels)
open Go.Sp
attribute [local irreducible] GW GL GO YG GC GA aS aW
mutual
def pT:T->GV
 | .mk n l=>.box [.v (ii n.kind),.v (ii n.at_),.v (ii n.n),.v (sv n.s),.v (.slice none 0 0),.sl 1 (jL l)] 0
def jL:List T->List (List GV)
 | []=>[]
 | t::r=>[pT t]::jL r
end
abbrev qT (t:T):GV:=.box [.v (ii t.n.kind),.v (ii t.n.at_),.v (ii t.n.n),.v (sv t.n.s),.v (.slice none 0 0),.sl 1 (jL t.kids)] 0
theorem Wz (t:T):pT t=qT t:=by cases t;rw [pT];rfl
theorem fV (l:List T):jL l=l.map fun t=>[qT t]:=by
 induction l with
 | nil=>rfl
 | cons t l ih=>rw [jL,ih,Wz];rfl
theorem mc (l:List T):(jL l).length=l.length:=by rw [fV];simp
theorem vw (l:List T) (t:T):jL (l++[t])=jL l++[[qT t]]:=by rw [fV,fV];simp
theorem BZ {l:List T} {i:Nat} {t:T} (h:l[i]?=some t):(jL l)[i]?=some [qT t]:=by rw [fV,getElem?_map,h];rfl
theorem Nw (k a:Int) (s:ah) (rows:List (List GV)):GF Tryz.prog 271 [.v (ii k),.v (ii a),.v (sv s),.sl 1 rows] [] (.loc 0 0) [.box 190 [.v (ii k),.v (ii a),.v (ii 0),.v (sv s),.v (.slice none 0 0),.sl 1 rows]]:=by
 refine ai Tryz.func271 Tryz.ntmps271 ?_;refine GW.wk (Wk.cells 0 rfl (ds:=[.v (ii k),.v (ii a),.v (ii 0),.v (sv s),.v (.slice none 0 0),.sl 1 rows]) iL) ?_;refine GW.ret ?_;refine po (n:=1) rfl (by first | exact .inr rfl | exact .inl rfl) rfl (Nat.zero_le _) rfl rfl ?_;exact ⟨rfl,rfl⟩
theorem ej (k a:Int) (s:ah) (l:List T) (rows:List (List GV)) (h:jL l=rows):GF Tryz.prog 271 [.v (ii k),.v (ii a),.v (sv s),.sl 1 rows] [] (qT (one k a s l)) []:=by
 subst h;refine ai Tryz.func271 Tryz.ntmps271 ?_;refine GW.wk (Wk.cells 0 rfl (ds:=[.v (ii k),.v (ii a),.v (ii 0),.v (sv s),.v (.slice none 0 0),.sl 1 (jL l)]) iL) ?_;refine GW.wk (Wk.freeze (i:=0) rfl rfl rfl (Nat.zero_le _)) ?_;exact ao
theorem sZ:GF Tryz.prog 233 [] [] (.sl 1 (levels.map fun l=>[strs l])) []:=by
 refine ai Tryz.func233 Tryz.ntmps233 ?_
 iterate 10 (refine bC ?_)
 exact av
end Go.Xg
namespace Go.Xg
open Go.RowKit Go.Xw Go.Proofs
open Go.Xp (Tok Nd T levels cm bt aK ay)
open Go.Im (nw rq tO kR cE ft tD jm fF oE pK)
attribute [local irreducible] GW GL GO YG GC GA aS aW
theorem decDigits_eq (n:Nat):Go.Lib.decDigits n=cm n:=by
 induction n using Nat.strongRecOn with
 | _ n ih =>
  unfold Go.Lib.decDigits cm;split
  ·rfl
  ·rw [ih (n / 10) ae]
theorem R9 (n:Int):Go.Lib.itoa n=nw n:=by
 unfold Go.Lib.itoa nw;rw [decDigits_eq,decDigits_eq]
theorem Lo (n:Int) (h0 : -9223372036854775808<=n) (h1:n<=9223372036854775807):GF Tryz.prog 195 [.v (ii n)] [] (.v (sv (nw n))) []:=by
 refine GF.UH (vs:=[ii n]) fun K β w ht hf=>?_
 obtain ⟨E,z,kP⟩:=so.all ht hf ht.pow (zs:=vA.map fun z=>Value.int .u64 z) (by decide) (fun m o x hx=>by
  rw [getElem?_map] at hx;unfold xg;rw [if_neg (by decide),if_pos rfl]
  cases hs:vA[o]? with
  | none=>rw [hs] at hx;cases hx
  | some y=>rw [hs] at hx;cases hx;rfl)
 have AM:Go.Lib.TabIs Tryz.prog w "internal/strconv.uint64pow10" .u64 Go.Lib.pow10Tab:=by
  unfold Go.Lib.TabIs World.var?;rw [show Tryz.prog.globalNamed "internal/strconv.uint64pow10" = some 3 by kernel_rfl,show Go.Lib.pow10Tab=vA by decide];simp only [Option.bind_some,kP]
 refine lT.oW (Calls.mono (Tryz.strconv_Itoa n h0 h1 w AM) ?_);rintro e w' ⟨h2,k,os,h3⟩;refine ⟨_,h2,by rw [R9];rfl,?_⟩;subst h3;refine ⟨rfl,rfl,rfl,by simp [Go.Sort.grow,World.drewN],fun j hj _=>?_⟩;simp only [Go.Sort.grow,World.drewN];rw [Array.getElem?_append_left hj]
theorem Pz (l:List ah) (s:ah) (hl:l.length<=1099511627776):GF Tryz.prog 234 [strs l,.box [.v (sv s)] 0] [] (.v (.bool (l.contains s))) []:=by
 have h:=jW l s hl;generalize l.contains s=b at *;refine ai Tryz.func234 Tryz.ntmps234 ?_;refine U [] (h) ?_;exact ao
def CG (ls:List (List ah)) (s:ah):Int:=match ls.findIdx? (fun l=>l.contains s) with | some i=>(i:Int) | none => -1
theorem Hk (ls:List (List ah)) (s:ah) (hn:ls.length<=1099511627776) (hl:∀ l∈ls,l.length<=1099511627776) :
  GF Tryz.prog 232 [.sl 1 (ls.map fun l=>[strs l]),.fn (.func 234) [] [.box [.v (sv s)] 0]] [] (.v (ii (CG ls s))) []:=by
 have dO:(ls.map fun l=>[strs l]).length=ls.length:=by simp
 refine ai Tryz.func232 Tryz.ntmps232 ?_;refine GW.range (ls.map fun l=>[strs l]).length (fun k fr Γ=>fr=[.sl 1 (ls.map fun l=>[strs l]),.fn (.func 234) [] [.box [.v (sv s)] 0],.aaF,.aaF,.aaF,.aaF,.aaF,.v (ii ((ls.map fun l=>[strs l]).length:Int)),.v (ii (k:Nat)),.aaF,.aaF,.aaF,.aaF,.aaF,.aaF,.aaF,.aaF,.aaF,.aaF]/\Γ=[]/\(ls.take k).all (fun l=>!(l.contains s))=true) ?_ ae ?_ ?_ ?_
 ·exact ⟨_,_,Wk.aw al,rfl,rfl,rfl⟩
 ·rintro k _ _ ⟨rfl,rfl,_⟩;exact ⟨rfl,rfl,rfl⟩
 ·rintro k _ _ aq ⟨rfl,rfl,aO⟩;rw [dO] at aq
  have cP:ls[k]?=some ls[k]:=by simp [aq]
  have hr:(ls.map fun l=>[strs l])[k]?=some [strs ls[k]]:=by rw [getElem?_map,cP];rfl
  have hc:=Pz ls[k] s (hl _ (getElem_mem aq))
  have bq:(ls.take (k+1)).all (fun l=>!(l.contains s))=((ls.take k).all (fun l=>!(l.contains s))&&!(ls[k].contains s)):=by rw [take_add_one,cP,all_append];simp
  have zy:ls[k].contains s=true->CG ls s=(k:Int):=fun h0=>by
   have:ls.findIdx? (fun l=>l.contains s)=some k:=by
    rw [List.findIdx?_eq_some_iff_getElem];refine ⟨aq,h0,fun j hj=>?_⟩;rw [all_eq_true] at aO;have:=aO ls[j] (by rw [List.mem_take_iff_getElem];exact ⟨j,by omega,rfl⟩);simpa using this
   unfold CG;rw [this]
  generalize ls[k]=l at *
  cases hb:l.contains s with
  | true =>
   rw [hb] at hc;rw [zy hb];refine ab ?_;refine ng [] (hc) ?_;exact av
  | false =>
   rw [hb] at hc bq;refine ab ?_;refine ng [] (hc) ?_;refine ab ?_;exact ⟨rfl,rfl,_,_,Wk.aw al,rfl,rfl,by rw [bq,aO];rfl⟩
 ·rintro _ _ ⟨rfl,rfl,aO⟩;rw [dO,take_length] at aO
  have:ls.findIdx? (fun l=>l.contains s)=none:=by
   rw [List.findIdx?_eq_none_iff];intro x hx;rw [all_eq_true] at aO;simpa using aO x hx
  unfold CG;rw [this];exact av
theorem DM (s:ah):GF Tryz.prog 200 [.v (sv s)] [] (.v (ii (rq s))) []:=by
 have h1:=sZ;have h2:=Hk levels s (by decide) (by decide);rw [show rq s=CG levels s from rfl];generalize CG levels s=z at *;generalize levels=ls at *;refine ai Tryz.func200 Tryz.ntmps200 ?_;refine GL.wk (Wk.freeze (i:=0) rfl rfl rfl (Nat.le_refl _)) ?_;refine GN (by simp only [nP,mM];rfl) ?_;refine U [] (h1) ?_;refine U [] (h2) ?_;exact ao
end Go.Xg
namespace Go.Xg
open Go.RowKit Go.Xw Go.Proofs
open Go.Xp (Tok Nd T levels cm bt aK ay)
open Go.Im (nw rq tO kR cE ft tD jm fF oE pK fH uC cL)
attribute [local irreducible] GW GL GO YG GC GA aS aW
theorem Ni (t:T) (z:Int):GF Tryz.prog 201 [uT t,.v (ii z)] [] (.v (.bool (kR t z))) []:=by
 have h:=DM t.n.s;unfold kR
 cases hk:(t.n.kind==6) with
 | true =>
  generalize rq t.n.s=y at *;refine ai Tryz.func201 Tryz.ntmps201 ?_;refine U [] (h) ?_;exact ao
 | false =>
  refine ai Tryz.func201 Tryz.ntmps201 ?_;exact ao
theorem uw (t:T) (b:Bool) (x:ah) (hx:x.length<=1099511627776) (h:GF Tryz.prog 160 [uT t] [] (.v (sv x)) []) :
  GF Tryz.prog 199 [uT t,.v (.bool b)] [] (.v (sv (tO b x))) []:=by
 unfold tO
 cases b with
 | true =>
  refine ai Tryz.func199 Tryz.ntmps199 ?_;refine U [] (h) ?_;exact ao
 | false =>
  refine ai Tryz.func199 Tryz.ntmps199 ?_;refine U [] (h) ?_;exact ao
theorem PB (ex:FuncId) [hf:aC Tryz.prog ex] (tx:T->ah) (l:List T) (h:∀ t∈l,GF Tryz.prog ex [uT t] [] (.v (sv (tx t))) []) (hj:(bt (l.map tx)).length<=1099511627776) (hl:l.length<=1099511627776) :
  GF Tryz.prog 198 [.sl 1 (bW l),.v (.func (.func ex) #[] #[])] [] (.v (sv (bt (l.map tx)))) []:=by
 have oR:=qC l;have hJ:=Lp (l.map tx) hj (by simpa using hl);refine ai Tryz.func198 Tryz.ntmps198 ?_;refine GW.wk (Wk.CN (t:=5) (a:=none) (c:=0) 9 1 rfl) ?_;refine GW.range (bW l).length (fun k fr Γ=>∃ m rows,fr=[.sl 1 (bW l),.v (.func (.func ex) #[] #[]),.aaF,.aaF,.aaF,.vec 0 m,.aaF,.aaF,.sl 1 (bW l),.v (ii ((bW l).length:Int)),.v (ii (k:Nat)),.aaF,.aaF,.aaF,.aaF,.aaF,.aaF,.aaF,.aaF,.aaF,.aaF,.aaF,.aaF]/\Γ=[.vec 9 1 0 rows]/\rows.length=m/\rows=((l.take k).map tx).map (fun s=>[GV.v (sv s)])/\m=k) ?_ ae ?_ ?_ ?_
 ·exact ⟨_,_,Wk.aw al,0,[],rfl,rfl,rfl,rfl,rfl⟩
 ·rintro k _ _ ⟨m,rows,rfl,rfl,_⟩;exact ⟨rfl,rfl,rfl⟩
 ·rintro k _ _ aq ⟨m,rows,rfl,rfl,hm,bp,sO⟩;rw [oR] at aq
  have cP:l[k]?=some l[k]:=by simp [aq]
  have hr:=vC cP;have ht:=h l[k] (getElem_mem aq)
  have bq:((l.take (k+1)).map tx).map (fun s=>[GV.v (sv s)])=rows++[[.v (sv (tx l[k]))]]:=by rw [take_add_one,cP,bp,map_append,map_append];rfl
  generalize l[k]=t at *;refine ab ?_;refine ig [] (ht) ?_;refine ab ?_;refine ea ?_;refine ab ?_;exact ⟨rfl,rfl,_,_,Wk.aw al,_,_,rfl,rfl,by simp [hm],bq.symm,by omega⟩
 ·rintro _ _ ⟨m,rows,rfl,rfl,hm,bp,sO⟩;rw [oR,take_length] at bp;refine aD ?_;refine GW.wk (Wk.iv (t:=5) rfl rfl rfl hm) ?_;subst bp;refine ab ?_;refine U [] (hJ) ?_;exact ao
theorem V4 {t:T} (h:cL t.n.kind t.kids.length=true) (hk:t.n.kind=3\/t.n.kind=5):∃ a,t.kids=[a]:=by
 have:t.kids.length=1:=by
  unfold cL at h
  rcases hk with hk | hk <;> rw [hk] at h <;> simp at h <;> omega
 match hl:t.kids,this with
 | [a],_=>exact ⟨a,rfl⟩
theorem V5 {t:T} (h:cL t.n.kind t.kids.length=true) (hk:t.n.kind=6):∃ a b,t.kids=[a,b]:=by
 have:t.kids.length=2:=by
  unfold cL at h;rw [hk] at h;simp at h;omega
 match hl:t.kids,this with
 | [a,b],_=>exact ⟨a,b,rfl⟩
theorem SU:∀ (N:Nat) (t:T),aK t<=N->fH t=true->oE t->jm t<=1099511627776->GF Tryz.prog 160 [uT t] [] (.v (sv (cE t))) []:=by
 intro N
 induction N with
 | zero=>intro t h;rw [Go.Xp.dZ] at h;omega
 | succ N ih =>
 intro t hN hk hn hw;have hlen:=Go.Im.vK _ t (Nat.le_refl _) hn;rw [Go.Xp.dZ] at hN;rw [Go.Im.xY,Bool.and_eq_true,Go.Im.sT,all_eq_true] at hk;rw [Go.Im.qz] at hn
 have jO:∀ a∈t.kids,GF Tryz.prog 160 [uT a] [] (.v (sv (cE a))) []/\(cE a).length<=1099511627776:=fun a ha=>by
  have h1:=Go.Im.tH ha;rw [Go.Im.oo] at hw;have h3:=Go.Im.jl hn.2 ha
  have h2:aK a<=ay t.kids:=by
   have:∀ (l:List T),a∈l->aK a<=ay l:=by
    intro l
    induction l with
    | nil=>intro h;cases h
    | cons b l ih2 =>
     intro h;rw [ay]
     rcases List.mem_cons.1 h with rfl | h
     ·omega
     ·have:=ih2 h;omega
   exact this _ ha
  have h4:=Go.Im.vK _ a (Nat.le_refl _) h3;exact ⟨ih a ae (hk.2 a ha) h3 ae,by omega⟩
 rw [Go.Im.NX] at hlen |-;unfold tD at hlen |-;have vd:=hk.1;have WY:=@V4 t vd;have X0:=@V5 t vd;have TY:=Lo t.n.n hn.1.1 hn.1.2;have IA:=DM t.n.s
 have eH:t.kids.length<=1099511627776:=by
  have:=Go.Im.Px t.kids;rw [Go.Im.oo] at hw;omega
 have El:=fun hj=>PB 160 cE t.kids (fun a ha=>(jO a ha).1) hj eH
 rw [<-Go.Im.C0] at El
 have qb:t.n.s.length<=1099511627776:=by rw [Go.Im.oo] at hw;omega
 have QQ:(bt (ft t.kids)).length<=1099511627776:=by
  have h1:=Go.Im.AV (ft t.kids)
  have h2:((ft t.kids).map fun y=>y.length+2).sum<=fF t.kids:=by
   have:∀ (l:List T),pK l->((ft l).map fun y=>y.length+2).sum<=fF l:=by
    intro l
    induction l with
    | nil=>intro _;simp [ft]
    | cons a l ih2 =>
     intro h;rw [pK] at h;have h1:=Go.Im.vK _ a (Nat.le_refl _) h.1;have h2:=ih2 h.2;rw [ft,fF,List.map_cons,sum_cons];omega
   exact this _ hn.2
  rw [Go.Im.oo] at hw;omega
 have El:=El QQ;clear QQ;unfold uT;generalize la:t.n.kind=kd at *
 by_cases h1:kd=1
 ·subst h1
  have f1:((1:Int)==1)=true:=by decide
  rw [if_pos rfl];refine ai Tryz.func160 Tryz.ntmps160 ?_;refine U [] (TY) ?_;exact ao
 rw [if_neg h1] at hlen |-
 have g1:(kd==1)=false:=by simpa using h1
 by_cases h3:kd=3
 ·subst h3
  have f1:((3:Int)==1)=false:=by decide
  have f3:((3:Int)==3)=true:=by decide
  rw [if_pos rfl] at hlen |-;obtain ⟨a,ha⟩:=WY (.inl rfl);rw [ha] at jO hlen |-;obtain ⟨c1,c2⟩:=jO a (List.mem_singleton.2 rfl)
  have hr:(bW [a])[0]?=some [uT a]:=by rw [jV];rfl
  simp only [ft,getD_cons_zero] at hlen |-;generalize bW [a]=rows at *;generalize cE a=x at *;refine ai Tryz.func160 Tryz.ntmps160 ?_;refine GW.draw (.q 0 (.q 1 (.q 2 (.q 3 (.q 4 (.q 5 (.q 6 (.q 7 (.q 8 (.q 9 (.q 10 (.q 11 (.a 12 (.q 13 (.q 14 (.q 15 .nil)))))))))))))))) (by kernel_rfl) (by kernel_rfl) ?_;refine aj ?_;refine az [] (c1) ?_;exact av
 rw [if_neg h3] at hlen |-
 have g3:(kd==3)=false:=by simpa using h3
 by_cases h4:kd=4
 ·subst h4
  have f1:((4:Int)==1)=false:=by decide
  have f3:((4:Int)==3)=false:=by decide
  have f4:((4:Int)==4)=true:=by decide
  rw [if_pos rfl] at hlen |-;generalize bW t.kids=rows at *;generalize bt (ft t.kids)=x at *;simp only [length_append,length_cons,length_nil] at hlen;refine ai Tryz.func160 Tryz.ntmps160 ?_;refine GW.draw (.q 0 (.q 1 (.q 2 (.q 3 (.q 4 (.q 5 (.q 6 (.q 7 (.q 8 (.q 9 (.a 10 (.q 11 (.q 12 (.q 13 .nil)))))))))))))) (by kernel_rfl) (by kernel_rfl) ?_;refine aj ?_;refine az [] (El) ?_;exact av
 rw [if_neg h4] at hlen |-
 have g4:(kd==4)=false:=by simpa using h4
 by_cases h5:kd=5
 ·subst h5
  have f1:((5:Int)==1)=false:=by decide
  have f3:((5:Int)==3)=false:=by decide
  have f4:((5:Int)==4)=false:=by decide
  have f5:((5:Int)==5)=true:=by decide
  rw [if_pos rfl] at hlen |-;obtain ⟨a,ha⟩:=WY (.inr rfl);rw [ha] at jO hlen |-;obtain ⟨c1,c2⟩:=jO a (List.mem_singleton.2 rfl)
  have hr:(bW [a])[0]?=some [uT a]:=by rw [jV];rfl
  simp only [ft,getD_cons_zero] at hlen |-;have TK:=uw a (a.n.kind==6) (cE a) c2 c1;have mu:=Go.Im.yA (a.n.kind==6) (cE a);generalize bW [a]=rows at *;generalize Z2:tO (a.n.kind==6) (cE a)=x at *;refine ai Tryz.func160 Tryz.ntmps160 ?_;refine GW.draw (.q 0 (.q 1 (.q 2 (.q 3 (.q 4 (.q 5 (.q 6 (.q 7 (.q 8 (.q 9 (.q 10 (.q 11 (.q 12 (.q 13 (.q 14 (.q 15 (.q 16 (.q 17 (.q 18 (.q 19 (.q 20 (.q 21 (.q 22 (.a 23 (.q 24 (.q 25 .nil)))))))))))))))))))))))))) (by kernel_rfl) (by kernel_rfl) ?_;refine aj ?_;refine az [] (TK) ?_;exact av
 rw [if_neg h5] at hlen |-
 have g5:(kd==5)=false:=by simpa using h5
 by_cases h6:kd=6
 ·subst h6
  have f1:((6:Int)==1)=false:=by decide
  have f3:((6:Int)==3)=false:=by decide
  have f4:((6:Int)==4)=false:=by decide
  have f5:((6:Int)==5)=false:=by decide
  have f6:((6:Int)==6)=true:=by decide
  rw [if_pos rfl] at hlen |-;obtain ⟨a,b,ha⟩:=X0 rfl;rw [ha] at jO hlen |-;obtain ⟨c1,c2⟩:=jO a (List.mem_cons_self);obtain ⟨d1,d2⟩:=jO b (List.mem_cons_of_mem _ List.mem_cons_self)
  have hr:(bW [a,b])[0]?=some [uT a]:=by rw [jV];rfl
  have fS:(bW [a,b])[1]?=some [uT b]:=by rw [jV];rfl
  simp only [ft,getD_cons_zero,getD_cons_succ] at hlen |-
  have aap : -1<=rq t.n.s/\rq t.n.s<=9:=by
   unfold rq
   cases hf:levels.findIdx? (fun l=>l.contains t.n.s) with
   | none=>simp
   | some i =>
    rw [List.findIdx?_eq_some_iff_getElem] at hf;have:=hf.1
    have h9:levels.length=9:=by decide
    simp only;omega
  generalize rq t.n.s=lv at *;have eI:=Ni a lv;have jh:=Ni b (lv+1);have TK:=uw a (kR a lv) (cE a) c2 c1;have XO:=uw b (kR b (lv+1)) (cE b) d2 d1;generalize bW [a,b]=rows at *;generalize Z2:tO (kR a lv) (cE a)=x at *;generalize hyy:tO (kR b (lv+1)) (cE b)=y at *;simp only [length_append,length_cons,length_nil] at hlen;refine ai Tryz.func160 Tryz.ntmps160 ?_;refine U [] (IA) ?_;refine GW.draw (.q 0 (.q 1 (.q 2 (.q 3 (.q 4 (.q 5 (.q 6 (.q 7 (.q 8 (.q 9 (.q 10 (.q 11 (.q 12 (.q 13 (.q 17 (.q 18 (.q 19 (.q 20 (.q 21 (.q 24 (.q 25 (.q 26 (.q 27 (.q 28 (.q 29 (.q 30 (.q 31 (.q 32 (.q 33 (.q 34 (.q 35 (.q 36 (.q 37 (.q 38 (.a 14 (.a 15 (.q 16 (.q 22 (.q 23 (.a 39 (.a 40 (.q 41 (.q 42 .nil))))))))))))))))))))))))))))))))))))))))))) (by kernel_rfl) (by kernel_rfl) ?_;refine aj ?_;refine yv [] (eI) ?_;refine aj ?_;refine az [] (TK) ?_;refine yv [] (jh) ?_;refine aj ?_;refine az [] (XO) ?_;exact av
 rw [if_neg h6]
 have g6:(kd==6)=false:=by simpa using h6
 refine ai Tryz.func160 Tryz.ntmps160 ?_;exact ao
end Go.Xg
set_option maxHeartbeats 2000000
namespace Go.Xg
open Go.RowKit Go.Xw Go.Proofs
open Go.Xp (Tok Nd T levels cm bt aK ay)
open Go.Im
attribute [local irreducible] GW GL GO YG GC GA aS aW
abbrev ik (f:FuncId):Value:=.func (.func f) #[] #[]
theorem Pe (l:List ah) (d:Nat) (hb:(fi l d).length<=1099511627776) (hl:l.length<=1099511627776):GF Tryz.prog 161 [strs l,.v (ii (d:Nat))] [] (.v (sv (fi l d))) []:=by
 have dO:(l.map fun s=>[GV.v (sv s)]).length=l.length:=by simp
 have vc:=sx l [123,32];unfold fi at hb |-;rw [length_append,vc] at hb;refine ai Tryz.func161 Tryz.ntmps161 ?_;refine GW.range (l.map fun s=>[GV.v (sv s)]).length (fun k fr Γ=>fr=[strs l,.aaF,.aaF,.aaF,.aaF,.v (sv (rD [123,32] (l.take k))),.aaF,.aaF,strs l,.v (ii ((l.map fun s=>[GV.v (sv s)]).length:Int)),.v (ii (k:Nat)),.aaF,.aaF,.aaF,.aaF,.aaF,.aaF,.aaF,.aaF,.aaF,.aaF]/\Γ=[]) ?_ ae ?_ ?_ ?_
 ·exact ⟨_,_,Wk.aw al,rfl,rfl⟩
 ·rintro k _ _ ⟨rfl,rfl⟩;exact ⟨rfl,rfl,rfl⟩
 ·rintro k _ _ aq ⟨rfl,rfl⟩;rw [dO] at aq
  have cP:l[k]?=some l[k]:=by simp [aq]
  have pA:(l.map fun s=>[GV.v (sv s)])[k]?=some [.v (sv l[k])]:=by rw [getElem?_map,cP];rfl
  have h1:=sx (l.take (k+1)) [123,32];have h2:=NT l (k+1)
  have hz:jQ (l.take (k+1))=jQ (l.take k)+(l[k].length+1):=by rw [take_add_one,cP,GK];simp [jQ]
  have h3:=sx (l.take k) [123,32];rw [show l.take (k+1)=l.take k++[l[k]] by rw [take_add_one,cP];rfl,LI] at |-;generalize l[k]=z at *;generalize rD [123,32] (l.take k)=acc at *;simp only [length_cons,length_nil] at h3 hb
  have aai:acc.length+z.length+3<=1099511627777:=by omega
  refine ab ?_;exact ⟨rfl,rfl,_,_,Wk.aw al,rfl,rfl⟩
 ·rintro _ _ ⟨rfl,rfl⟩;rw [dO,take_length];generalize rD [123,32] l=acc at *;simp only [length_append,length_cons,length_nil] at vc hb;exact av
theorem Wj (ex bk:FuncId) [hf:aC Tryz.prog ex] (tx:T->ah) (t a:T) (k:Nat) (hk:t.kids[k]?=some a) (h:GF Tryz.prog ex [uT a] [] (.v (sv (tx a))) []) :
  GF Tryz.prog 265 [.v (ii (k:Nat)),.box [.v (ik ex),.v (ik bk)] 0,.box [uT t] 0] [] (.v (sv (tx a))) []:=by
 have hr:=vC hk;generalize tx a=x at *;refine ai Tryz.func265 Tryz.ntmps265 ?_;refine GW.draw (.q 0 (.q 1 (.q 2 (.q 3 (.q 4 (.q 5 (.q 6 (.q 7 (.q 8 (.a 9 (.q 10 .nil))))))))))) (by kernel_rfl) (by kernel_rfl) ?_;refine aj ?_;refine yv [] (h) ?_;refine aj ?_;exact av
end Go.Xg
namespace Go.Xg
open Go.RowKit Go.Xw Go.Proofs
open Go.Xp (Tok Nd T levels cm bt aK ay)
open Go.Im
attribute [local irreducible] GW GL GO YG GC GA aS aW
structure Wr (ex bk:FuncId) (tx:T->ah) (inl:List ah->Nat->ah):Prop where
 expr:∀ a,fH a=true->oE a->jm a<=1099511627776->GF Tryz.prog ex [uT a] [] (.v (sv (tx a))) []
 block:∀ l (d:Nat),(inl l d).length<=1099511627776->l.length<=1099511627776->d<=1099511627776->GF Tryz.prog bk [strs l,.v (ii (d:Nat))] [] (.v (sv (inl l d))) []
 mem:∀ l d s,s∈l->s.length<=(inl l d).length
theorem zi (ex bk:FuncId) [he:aC Tryz.prog ex] [hb:aC Tryz.prog bk] (tx:T->ah) (inl:List ah->Nat->ah) (W:Wr ex bk tx inl) (t:T) (d:Nat) (hd:d+1<=1099511627776) (hl:t.kids.length<=1099511627776) (hlen:(mr tx inl d t).length<=1099511627776)
  (h:∀ a∈t.kids,(jD tx inl (d+1) a).length<=1099511627776->GF Tryz.prog 231 [.agg [.v (ik ex),.v (ik bk)],uT a,.v (ii ((d+1:Nat):Int))] [] (.v (sv (jD tx inl (d+1) a))) []) :
  GF Tryz.prog 197 [.agg [.v (ik ex),.v (ik bk)],uT t,.v (ii (d:Nat))] [] (.v (sv (mr tx inl d t))) []:=by
 have oR:=qC t.kids;rw [LB,Jj] at hlen |-;have dr:=W.block (t.kids.map (jD tx inl (d+1))) d hlen (by simpa using hl) ae
 have hk:∀ a∈t.kids,GF Tryz.prog 231 [.agg [.v (ik ex),.v (ik bk)],uT a,.v (ii ((d+1:Nat):Int))] [] (.v (sv (jD tx inl (d+1) a))) []:=fun a ha =>
  h a ha (Nat.le_trans (W.mem _ d _ (List.mem_map.2 ⟨a,ha,rfl⟩)) hlen)
 generalize inl (t.kids.map (jD tx inl (d+1))) d=y at *;refine ai Tryz.func197 Tryz.ntmps197 ?_;refine GW.wk (Wk.CN (t:=7) (a:=none) (c:=0) 9 1 rfl) ?_;refine GW.range (bW t.kids).length (fun k fr Γ=>∃ m rows,fr=[.aaF,.aaF,.v (ii (d:Nat)),.loc 0 0,.aaF,.aaF,.aaF,.vec 1 m,.aaF,.aaF,.aaF,.aaF,.aaF,.sl 1 (bW t.kids),.v (ii ((bW t.kids).length:Int)),.v (ii (k:Nat)),.aaF,.aaF,.aaF,.aaF,.aaF,.aaF,.aaF,.aaF,.aaF,.aaF,.aaF,.aaF,.aaF,.aaF,.aaF,.aaF,.aaF]/\Γ=[.box 192 [.v (ik ex),.v (ik bk)],.vec 9 1 0 rows]/\rows.length=m/\rows=((t.kids.take k).map (jD tx inl (d+1))).map (fun s=>[GV.v (sv s)])/\m=k) ?_ ae ?_ ?_ ?_
 ·exact ⟨_,_,Wk.aw al,0,[],rfl,rfl,rfl,rfl,rfl⟩
 ·rintro k _ _ ⟨m,rows,rfl,rfl,_⟩;exact ⟨rfl,rfl,rfl⟩
 ·rintro k _ _ aq ⟨m,rows,rfl,rfl,hm,bp,sO⟩;rw [oR] at aq
  have cP:t.kids[k]?=some t.kids[k]:=by simp [aq]
  have hr:=vC cP;have ht:=hk t.kids[k] (getElem_mem aq)
  have bq:((t.kids.take (k+1)).map (jD tx inl (d+1))).map (fun s=>[GV.v (sv s)])=rows++[[.v (sv (jD tx inl (d+1) t.kids[k]))]]:=by rw [take_add_one,cP,bp,map_append,map_append];rfl
  generalize t.kids[k]=xZ at *;generalize jD tx inl (d+1) xZ=z at *;refine ab ?_;refine U [] (ht) ?_;refine ea ?_;refine ab ?_;exact ⟨rfl,rfl,_,_,Wk.aw al,_,_,rfl,rfl,by simp [hm],bq.symm,by omega⟩
 ·rintro _ _ ⟨m,rows,rfl,rfl,hm,bp,sO⟩;rw [oR,take_length] at bp;refine aD ?_;refine GW.wk (Wk.iv (t:=7) rfl rfl rfl hm) ?_;subst bp;refine ab ?_;refine ig [] (dr) ?_;exact av
theorem V6 {t:T} {n:Nat} (h:cL t.n.kind t.kids.length=true) (hk:(n=1/\(t.n.kind=13\/t.n.kind=7\/t.n.kind=11\/t.n.kind=12))\/(n=2/\(t.n.kind=8\/t.n.kind=10))):t.kids.length=n:=by
 unfold cL at h
 rcases hk with ⟨rfl,hk⟩ | ⟨rfl,hk⟩
 ·rcases hk with hk | hk | hk | hk <;> rw [hk] at h <;> simp at h <;> omega
 ·rcases hk with hk | hk <;> rw [hk] at h <;> simp at h <;> omega
theorem UB {t:T} (h:cL t.n.kind t.kids.length=true) (hk:t.n.kind=9):t.kids.length=2\/t.kids.length=3:=by
 unfold cL at h;rw [hk] at h;simp at h;omega
theorem HQ (ex bk:FuncId) [he:aC Tryz.prog ex] [hb:aC Tryz.prog bk] (tx:T->ah) (inl:List ah->Nat->ah) (W:Wr ex bk tx inl):∀ (N:Nat) (t:T),aK t<=N->fH t=true->oE t->jm t<=1099511627776->∀ d,d+aK t<=1099511627776->(jD tx inl d t).length<=1099511627776 ->
  GF Tryz.prog 231 [.agg [.v (ik ex),.v (ik bk)],uT t,.v (ii (d:Nat))] [] (.v (sv (jD tx inl d t))) []:=by
 intro N
 induction N with
 | zero=>intro t h;rw [Go.Xp.dZ] at h;omega
 | succ N ih =>
 intro t hN hk hn hw d hd hlen;have eS:=W.expr t hk hn hw;rw [Go.Xp.dZ] at hN hd;rw [Go.Im.xY,Bool.and_eq_true,Go.Im.sT,all_eq_true] at hk;rw [Go.Im.qz] at hn;have hwe:=Go.Im.oo t
 have Ka:∀ (l:List T) (a:T),a∈l->aK a<=ay l:=by
  intro l
  induction l with
  | nil=>intro a h;cases h
  | cons b l ih2 =>
   intro a h;rw [ay]
   rcases List.mem_cons.1 h with rfl | h
   ·omega
   ·have:=ih2 a h;omega
 have gM:=fun (k:Nat) (a:T) (mx:t.kids[k]?=some a)=>Wj ex bk tx t a k mx (W.expr a (hk.2 a (mem_of_getElem? mx)) (Go.Im.jl hn.2 (mem_of_getElem? mx)) (by have:=Go.Im.tH (mem_of_getElem? mx);omega))
 have dr:∀ a∈t.kids,(mr tx inl d a).length<=1099511627776->GF Tryz.prog 197 [.agg [.v (ik ex),.v (ik bk)],uT a,.v (ii (d:Nat))] [] (.v (sv (mr tx inl d a))) []:=fun a ha TV=>by
  have h1:=Ka _ a ha;have h2:=Go.Im.tH ha;have h3:=hk.2 a ha;have h4:=Go.Im.jl hn.2 ha;rw [Go.Im.xY,Bool.and_eq_true,Go.Im.sT,all_eq_true] at h3;rw [Go.Im.qz] at h4;have h5:=Go.Xp.dZ a;have h6:=Go.Xp.b7 a.kids;have h7:=Go.Im.oo a
  refine zi ex bk tx inl W a d ae ae TV fun b eB ZC=>?_
  have h8:=Ka _ b eB;have h9:=Go.Im.tH eB;exact ih b ae (h3.2 b eB) (Go.Im.jl h4.2 eB) ae (d+1) ae ZC
 rw [NR] at hlen |-;unfold xc at hlen |-;rw [H0] at hlen |-;have vd:=@V6 t;have X1:=@UB t hk.1
 have vd:=fun n=>@vd n hk.1
 unfold uT at eS |-;unfold uT at gM;generalize la:t.n.kind=kd at *
 by_cases eA:kd=13
 ·subst eA
  have f13:((13:Int)==13)=true:=by decide
  rw [if_pos rfl] at hlen |-;have eI:=vd 1 (.inl ⟨rfl,.inl rfl⟩)
  obtain ⟨a,ha⟩:∃ a,t.kids=[a]:=by
   match hl:t.kids,eI with
   | [a],_=>exact ⟨a,rfl⟩
  have h0:=gM 0 a (by rw [ha];rfl);rw [ha] at hlen |-;rw [ha] at h0;simp only [List.map_cons,map_nil,getD_cons_zero,length_append,length_cons,length_nil] at hlen |-;generalize tx a=x at *;generalize bW [a]=rows at *;refine db Tryz.func231 Tryz.ntmps231 ?_;refine iM ?_;refine GL.wk (Wk.freeze (i:=0) rfl rfl rfl (Nat.zero_le _)) ?_;refine GL.wk (Wk.freeze (i:=1) rfl rfl rfl (Nat.zero_le _)) ?_;refine GN (by simp only [nP,mM];rfl) ?_;refine ab ?_;refine GW.draw (.q 0 (.q 1 (.q 2 (.q 3 (.q 4 (.q 5 (.q 6 (.q 7 (.a 8 (.q 9 (.q 10 (.q 11 .nil)))))))))))) (by kernel_rfl) (by kernel_rfl) ?_;refine aj ?_;refine ni [] (h0) ?_;refine aj ?_;exact av
 rw [if_neg eA] at hlen |-
 have g13:(kd==13)=false:=by simpa using eA
 by_cases h7:kd=7
 ·subst h7
  have f13:((7:Int)==13)=false:=by decide
  have f7:((7:Int)==7)=true:=by decide
  rw [if_pos rfl] at hlen |-;have eI:=vd 1 (.inl ⟨rfl,.inr (.inl rfl)⟩)
  obtain ⟨a,ha⟩:∃ a,t.kids=[a]:=by
   match hl:t.kids,eI with
   | [a],_=>exact ⟨a,rfl⟩
  have h0:=gM 0 a (by rw [ha];rfl);rw [ha] at hlen |-;rw [ha] at h0;simp only [List.map_cons,map_nil,getD_cons_zero,length_append,length_cons,length_nil] at hlen |-;generalize tx a=x at *;generalize bW [a]=rows at *;refine db Tryz.func231 Tryz.ntmps231 ?_;refine iM ?_;refine GL.wk (Wk.freeze (i:=0) rfl rfl rfl (Nat.zero_le _)) ?_;refine GL.wk (Wk.freeze (i:=1) rfl rfl rfl (Nat.zero_le _)) ?_;refine GN (by simp only [nP,mM];rfl) ?_;refine ab ?_;refine GW.draw (.q 0 (.q 1 (.q 2 (.q 3 (.q 4 (.q 5 (.q 6 (.a 7 (.q 8 (.q 9 (.q 10 .nil))))))))))) (by kernel_rfl) (by kernel_rfl) ?_;refine aj ?_;refine ni [] (h0) ?_;refine aj ?_;exact av
 rw [if_neg h7] at hlen |-
 have g7:(kd==7)=false:=by simpa using h7
 by_cases h8:kd=8
 ·subst h8
  have f13:((8:Int)==13)=false:=by decide
  have f7:((8:Int)==7)=false:=by decide
  have f8:((8:Int)==8)=true:=by decide
  rw [if_pos rfl] at hlen |-;have eI:=vd 2 (.inr ⟨rfl,.inl rfl⟩)
  obtain ⟨a,b,ha⟩:∃ a b,t.kids=[a,b]:=by
   match hl:t.kids,eI with
   | [a,b],_=>exact ⟨a,b,rfl⟩
  have h0:=gM 0 a (by rw [ha];rfl);have h1:=gM 1 b (by rw [ha];rfl);rw [ha] at hlen |-;rw [ha] at h0 h1;simp only [List.map_cons,map_nil,getD_cons_zero,getD_cons_succ,length_append,length_cons,length_nil] at hlen |-;generalize tx a=x at *;generalize tx b=y at *;generalize bW [a,b]=rows at *;refine db Tryz.func231 Tryz.ntmps231 ?_;refine iM ?_;refine GL.wk (Wk.freeze (i:=0) rfl rfl rfl (Nat.zero_le _)) ?_;refine GL.wk (Wk.freeze (i:=1) rfl rfl rfl (Nat.zero_le _)) ?_;refine GN (by simp only [nP,mM];rfl) ?_;refine ab ?_;refine GW.draw (.q 0 (.q 1 (.q 2 (.q 3 (.q 4 (.q 5 (.q 6 (.q 10 (.a 7 (.q 8 (.q 9 (.a 11 (.q 12 (.q 13 (.q 14 .nil))))))))))))))) (by kernel_rfl) (by kernel_rfl) ?_;refine aj ?_;refine ni [] (h0) ?_;refine aj ?_;refine ni [] (h1) ?_;refine aj ?_;exact av
 rw [if_neg h8] at hlen |-
 have g8:(kd==8)=false:=by simpa using h8
 by_cases h9:kd=9
 ·subst h9
  have f13:((9:Int)==13)=false:=by decide
  have f7:((9:Int)==7)=false:=by decide
  have f8:((9:Int)==8)=false:=by decide
  have f9:((9:Int)==9)=true:=by decide
  rw [if_pos rfl] at hlen |-
  rcases X1 rfl with eI | eI
  ·skip
   obtain ⟨a,b,ha⟩:∃ a b,t.kids=[a,b]:=by
    match hl:t.kids,eI with
    | [a,b],_=>exact ⟨a,b,rfl⟩
   have h0:=gM 0 a (by rw [ha];rfl)
   have fS:(bW [a,b])[1]?=some [uT b]:=by rw [jV];rfl
   have FO:(bW [a,b]).length=2:=by rw [qC];rfl
   have vg:(((bW [a,b]).length:Int)==3)=false:=by rw [FO];decide
   rw [ha] at hlen |-;rw [ha] at h0;rw [if_neg (by simp)] at hlen |-;simp only [List.map_cons,map_nil,getD_cons_zero,getD_cons_succ,length_append,length_cons,length_nil] at hlen |-;have zu:=dr b (by rw [ha];simp) ae;generalize tx a=x at *;generalize mr tx inl d b=y at *;clear dr gM ih;generalize bW [a,b]=rows at *;refine db Tryz.func231 Tryz.ntmps231 ?_;refine iM ?_;refine GL.wk (Wk.freeze (i:=0) rfl rfl rfl (Nat.zero_le _)) ?_;refine GL.wk (Wk.freeze (i:=1) rfl rfl rfl (Nat.zero_le _)) ?_;refine GN (by simp only [nP,mM];rfl) ?_;refine ab ?_;refine GW.draw (.q 0 (.q 4 (.q 5 (.q 6 (.q 7 (.q 8 (.q 9 (.q 10 (.q 11 (.a 1 (.q 2 (.q 3 (.a 12 (.q 13 (.q 14 .nil))))))))))))))) (by kernel_rfl) (by kernel_rfl) ?_;refine aj ?_;refine ni [] (h0) ?_;refine aj ?_;refine az [] (zu) ?_;exact av
  ·skip
   obtain ⟨a,b,c,ha⟩:∃ a b c,t.kids=[a,b,c]:=by
    match hl:t.kids,eI with
    | [a,b,c],_=>exact ⟨a,b,c,rfl⟩
   have h0:=gM 0 a (by rw [ha];rfl)
   have fS:(bW [a,b,c])[1]?=some [uT b]:=by rw [jV];rfl
   have c6:(bW [a,b,c])[2]?=some [uT c]:=by rw [jV];rfl
   have FO:(bW [a,b,c]).length=3:=by rw [qC];rfl
   have vg:(((bW [a,b,c]).length:Int)==3)=true:=by rw [FO];decide
   rw [ha] at hlen |-;rw [ha] at h0;rw [if_pos (by simp)] at hlen |-;simp only [List.map_cons,map_nil,getD_cons_zero,getD_cons_succ,length_append,length_cons,length_nil] at hlen |-;have zu:=dr b (by rw [ha];simp) ae;have eB:=dr c (by rw [ha];simp) ae;generalize tx a=x at *;generalize mr tx inl d b=y at *;generalize mr tx inl d c=z at *;clear dr gM ih;generalize bW [a,b,c]=rows at *;refine db Tryz.func231 Tryz.ntmps231 ?_;refine iM ?_;refine GL.wk (Wk.freeze (i:=0) rfl rfl rfl (Nat.zero_le _)) ?_;refine GL.wk (Wk.freeze (i:=1) rfl rfl rfl (Nat.zero_le _)) ?_;refine GN (by simp only [nP,mM];rfl) ?_;refine ab ?_;refine GW.draw (.q 0 (.q 4 (.q 5 (.q 6 (.q 7 (.q 8 (.q 9 (.q 10 (.q 11 (.a 1 (.q 2 (.q 3 (.a 12 (.q 13 (.q 14 .nil))))))))))))))) (by kernel_rfl) (by kernel_rfl) ?_;refine aj ?_;refine ni [] (h0) ?_;refine aj ?_;refine az [] (zu) ?_;refine ab ?_;refine GW.draw (.q 0 (.q 1 (.q 2 (.q 3 (.q 4 (.q 5 (.q 6 (.q 7 (.q 8 (.a 9 (.q 10 (.q 11 (.q 12 .nil))))))))))))) (by kernel_rfl) (by kernel_rfl) ?_;refine aj ?_;refine az [] (eB) ?_;exact av
 rw [if_neg h9] at hlen |-
 have g9:(kd==9)=false:=by simpa using h9
 by_cases kL:kd=10
 ·subst kL
  have f13:((10:Int)==13)=false:=by decide
  have f7:((10:Int)==7)=false:=by decide
  have f8:((10:Int)==8)=false:=by decide
  have f9:((10:Int)==9)=false:=by decide
  have f10:((10:Int)==10)=true:=by decide
  rw [if_pos rfl] at hlen |-;have eI:=vd 2 (.inr ⟨rfl,.inr rfl⟩)
  ·skip
   obtain ⟨a,b,ha⟩:∃ a b,t.kids=[a,b]:=by
    match hl:t.kids,eI with
    | [a,b],_=>exact ⟨a,b,rfl⟩
   have h0:=gM 0 a (by rw [ha];rfl)
   have fS:(bW [a,b])[1]?=some [uT b]:=by rw [jV];rfl
   have FO:(bW [a,b]).length=2:=by rw [qC];rfl
   have vg:(((bW [a,b]).length:Int)==3)=false:=by rw [FO];decide
   rw [ha] at hlen |-;rw [ha] at h0;simp only [List.map_cons,map_nil,getD_cons_zero,getD_cons_succ,length_append,length_cons,length_nil] at hlen |-;have zu:=dr b (by rw [ha];simp) ae;generalize tx a=x at *;generalize mr tx inl d b=y at *;clear dr gM ih;generalize bW [a,b]=rows at *;refine db Tryz.func231 Tryz.ntmps231 ?_;refine iM ?_;refine GL.wk (Wk.freeze (i:=0) rfl rfl rfl (Nat.zero_le _)) ?_;refine GL.wk (Wk.freeze (i:=1) rfl rfl rfl (Nat.zero_le _)) ?_;refine GN (by simp only [nP,mM];rfl) ?_;refine ab ?_;refine GW.draw (.q 0 (.q 4 (.q 5 (.q 6 (.q 7 (.q 8 (.q 9 (.q 10 (.q 11 (.a 1 (.q 2 (.q 3 (.a 12 (.q 13 (.q 14 .nil))))))))))))))) (by kernel_rfl) (by kernel_rfl) ?_;refine aj ?_;refine ni [] (h0) ?_;refine aj ?_;refine az [] (zu) ?_;exact av
 rw [if_neg kL] at hlen |-
 have g10:(kd==10)=false:=by simpa using kL
 by_cases n5:kd=11
 ·subst n5
  have f13:((11:Int)==13)=false:=by decide
  have f7:((11:Int)==7)=false:=by decide
  have f8:((11:Int)==8)=false:=by decide
  have f9:((11:Int)==9)=false:=by decide
  have f10:((11:Int)==10)=false:=by decide
  have f11:((11:Int)==11)=true:=by decide
  rw [if_pos rfl] at hlen |-;have eI:=vd 1 (.inl ⟨rfl,.inr (.inr (.inl rfl))⟩)
  obtain ⟨a,ha⟩:∃ a,t.kids=[a]:=by
   match hl:t.kids,eI with
   | [a],_=>exact ⟨a,rfl⟩
  have h0:=gM 0 a (by rw [ha];rfl);rw [ha] at hlen |-;rw [ha] at h0;simp only [List.map_cons,map_nil,getD_cons_zero,length_append,length_cons,length_nil] at hlen |-;generalize tx a=x at *;generalize bW [a]=rows at *;refine db Tryz.func231 Tryz.ntmps231 ?_;refine iM ?_;refine GL.wk (Wk.freeze (i:=0) rfl rfl rfl (Nat.zero_le _)) ?_;refine GL.wk (Wk.freeze (i:=1) rfl rfl rfl (Nat.zero_le _)) ?_;refine GN (by simp only [nP,mM];rfl) ?_;refine ab ?_;refine ng [] (h0) ?_;exact av
 rw [if_neg n5] at hlen |-
 have g11:(kd==11)=false:=by simpa using n5
 by_cases nF:kd=12
 ·subst nF
  have f13:((12:Int)==13)=false:=by decide
  have f7:((12:Int)==7)=false:=by decide
  have f8:((12:Int)==8)=false:=by decide
  have f9:((12:Int)==9)=false:=by decide
  have f10:((12:Int)==10)=false:=by decide
  have f11:((12:Int)==11)=false:=by decide
  have f12:((12:Int)==12)=true:=by decide
  rw [if_pos rfl] at hlen |-;have eI:=vd 1 (.inl ⟨rfl,.inr (.inr (.inr rfl))⟩)
  obtain ⟨a,ha⟩:∃ a,t.kids=[a]:=by
   match hl:t.kids,eI with
   | [a],_=>exact ⟨a,rfl⟩
  have h0:=gM 0 a (by rw [ha];rfl);rw [ha] at hlen |-;rw [ha] at h0;simp only [List.map_cons,map_nil,getD_cons_zero,length_append,length_cons,length_nil] at hlen |-;generalize tx a=x at *;generalize bW [a]=rows at *;refine db Tryz.func231 Tryz.ntmps231 ?_;refine iM ?_;refine GL.wk (Wk.freeze (i:=0) rfl rfl rfl (Nat.zero_le _)) ?_;refine GL.wk (Wk.freeze (i:=1) rfl rfl rfl (Nat.zero_le _)) ?_;refine GN (by simp only [nP,mM];rfl) ?_;refine ab ?_;refine ng [] (h0) ?_;exact av
 rw [if_neg nF] at hlen |-
 have g12:(kd==12)=false:=by simpa using nF
 clear dr gM ih;generalize tx t=x at *;refine db Tryz.func231 Tryz.ntmps231 ?_;refine iM ?_;refine GL.wk (Wk.freeze (i:=0) rfl rfl rfl (Nat.zero_le _)) ?_;refine GL.wk (Wk.freeze (i:=1) rfl rfl rfl (Nat.zero_le _)) ?_;refine GN (by simp only [nP,mM];rfl) ?_;refine ab ?_;refine ig [] (eS) ?_;exact av
end Go.Xg
