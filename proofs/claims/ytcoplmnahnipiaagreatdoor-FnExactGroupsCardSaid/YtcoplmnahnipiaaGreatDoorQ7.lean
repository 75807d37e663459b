/- Part 7 of proofs that are told in their last texts. -/
import Derived.Test.YtcoplmnahnipiaaGreatDoorQ4
import Derived.ProofKit
import Derived.Below
import Derived.ChangeSame
import Derived.Test.YtcoplmnahnipiaaGreatDoorQ5
import Derived.Lib.Builder
import Derived.Lib.UnsafeStr
import Derived.Shelf.Strings.Builder1
import Derived.Shelf.Strings.Builder2
import Derived.Shelf.Small.Strs
import Derived.Shelf.Strings.BuilderF
import Derived.Shelf.Strconv.Itoa0
import Derived.Shelf.Strconv.Itoa1
import Derived.Shelf.LaysM
import Derived.Shelf.Strconv.Itoa2
import Derived.Shelf.Strconv.Itoa3
import Derived.Shelf.Strings.Search1
import Derived.Shelf.Strings.Search2
import Derived.Shelf.Strings.Search3
import Derived.Shelf.Strings.Shaped
import Derived.Shelf.Sort.Plain
import Derived.Shelf.Strings.Prefix
import Derived.Shelf.Strings.Fields
import Derived.Shelf.Strings.SplitShaped
import Derived.Shelf.Unicode.Latin
import Derived.Shelf.Unicode.Is16White
import Derived.Shelf.Unicode.IsSpaceAny
import Derived.Shelf.Unicode.Is16Any
import Derived.Shelf.Unicode.Is32Any
import Derived.Shelf.Unicode.ExclAny
import Derived.Ground.Names2Prog
import Derived.Shelf.Slices.CompactI
import Derived.Shelf.Slices.In.SortNone
import Derived.Test.YtcoplmnahnipiaaGreatDoorProg
import Derived.Test.YtcoplmnahnipiaaGreatDoorQ2
import Derived.Test.YtcoplmnahnipiaaGreatDoorQ6
import Derived.Lib.OwnBridge
import Derived.Lib.AppendIntMem
import Derived.Test.YtcoplmnahnipiaaGreatDoorQ1
open List (all_append all_cons all_eq_false all_eq_true all_nil drop_eq_getElem_cons flatten_cons getD_cons_succ getD_cons_zero getElem?_append_left getElem?_eq_none getElem?_map getElem_mem length_append length_cons length_map length_nil map_append map_nil mem_map mem_of_getElem? mem_singleton sum_cons take_add_one take_length take_of_length_le)
set_option linter.unusedVariables false
set_option linter.unusedSimpArgs false
set_option maxRecDepth 100000
namespace Go.Xw
open Go.RowKit Go.WideShapes Go.ChangeShapes
section
variable {H:Type} {enc:TypeId × Value->H} {P:Program}
theorem D3 {f:Func} {s:ChangeSpec} {apart fresh handsOn again:Bool} {W W':World} {args:Array Value} {v:Value} {ds gs:List (DataW H)} {before pa pv:List MemPlace}
  (hW:DataW.Whole enc P f.params.toList s.vars apart W args.toList ds gs before)
  (U0:∀ (b:Nat) (sp:Nat->Bool) (hd:Bool),DataW.TrodAll enc P W' b sp hd f.resultTypes.toList (v.resultList f.resultTypes.size) (s.fn H (ds++gs)).results [])
  (AY:∀ sp:Nat->Bool,(∀ p∈before,sp p.block=true)->DataW.TrodAll enc P W' 0 sp true f.params.toList args.toList (s.fn H (ds++gs)).args pa)
  (Rz:∀ sp:Nat->Bool,(∀ p∈before,sp p.block=true)->DataW.TrodVars enc P W' sp s.vars (s.fn H (ds++gs)).vars pv)
  (Dh:before=pa++pv) (hb:Below W.heap.size W W')
  (eG:∀ (j:Nat) (t:TypeId) (r:Value),f.resultTypes[j]?=some t->(v.resultList f.resultTypes.size)[j]?=some r->Value.okWide P W' .any 0 t r) :
  s.post enc P f apart fresh handsOn again W args v W':=by
 have ak:∀ p∈before,p.block < W.heap.size:=fun p hp=>hW.lt p hp
 have hold:∀ p∈before,(fun b=>decide (b < W.heap.size)) p.block=true:=fun p hp=>by simpa using ak p hp
 refine ⟨ds,gs,before,[],pa,pv,hW,U0 _ _ _,AY _ hold,Rz _ hold,World.keptBut_mono (fun p hp=>⟨hp,?_⟩) (hb.frame (·∈before)),fun _=>?_⟩
 ·rw [Dh,List.mem_append] at hp;exact Or.inr hp
 ·obtain ⟨_,_,_,_,_,hz,hn⟩:=hW;refine ⟨eG,_,_,([]++pa)++pv,⟨[]++pa,pv,trodAll_append (AY _ (fun _ _=>rfl)) (U0 _ _ _),Rz _ (fun _ _=>rfl),rfl,?_,?_⟩,?_⟩
  ·intro b off hp
   have fP:MemPlace.cell b off∈before:=by rw [Dh];simpa using hp
   rw [hb.frozen (ak _ fP)];exact hz b off fP
  ·intro ha;have:=hn ha;rw [Dh] at this;simpa using this
  ·intro p hp _;rw [Dh];simpa using hp
end
end Go.Xw
namespace Go.Xg
open Go.RowKit Go.Xw
class BM (P:Program) (t:TypeId):Prop where
 und:∃ e j,P.underlying t=some (.pointer e)/\P.info? e=some j
theorem BM.mk' {P:Program} {t e:TypeId} (h:P.underlying t=some (.pointer e)) (k:(P.info? e).isSome=true):BM P t:=⟨e,(P.info? e).get k,h,by simp⟩
section
variable {P:Program} {m:Nat} {Q:dD} {fr:List GV} {Γ:List Ob} {ops:Array Oper} {rest:List Oper} {d:Option Tmp} {op:Op} {ty:TypeId} {pos:String} {af:Array Edge}
theorem YG.vU {x y:Operand} {t t':TypeId} [hT:BM P t] {i o:Nat} (hx:aY fr x=.loc i o) (hy:aY fr y=.v (.pointer none)):YG P (.binOp .eql t x y t') fr Γ (.v (.bool false)):=fun B K β w l hI hF=>by
 have h:=hF.ev x;rw [hx] at h;generalize hv:ev l x=v at h
 cases h with
 | loc _ _ b hb =>
  obtain ⟨e,j,h1,h2⟩:=hT.und
  have hp:P.pointee t=e:=by simp [Program.pointee,h1]
  have:=run_eql_pointer_nil (P:=P) w t (some ⟨b,o,none⟩) (by rw [hp];exact h1);refine ⟨_,fun d ty pos af=>?_,.v _⟩;simp [execOp,eqGuard,hv,hF.gV hy,this]
theorem YG.wy {x y:Operand} {t t':TypeId} [hT:BM P t] {i o:Nat} (hx:aY fr x=.loc i o) (hy:aY fr y=.loc i o):YG P (.binOp .neq t x y t') fr Γ (.v (.bool false)):=fun B K β w l hI hF=>by
 have h:=hF.ev x;rw [hx] at h;have h':=hF.ev y;rw [hy] at h';generalize hv:ev l x=v at h;generalize Bc:ev l y=v' at h'
 cases h with
 | loc _ _ b hb =>
  cases h' with
  | loc _ _ b' bq =>
   rw [hb] at bq;cases bq;obtain ⟨e,j,h1,h2⟩:=hT.und;have:=Lib.run_neq_ptr_same (P:=P) w ⟨b,o,none⟩ h1 h2;refine ⟨_,fun d ty pos af=>?_,.v _⟩;simp [execOp,eqGuard,hv,Bc,this]
theorem Inv.again {B:Bs} {K:Fz} {β:Bt} {Γ:List Ob} {w w':World} {i E k:Nat} {rows:List (List GV)} {x:Value} {xs:List Value} (h:Inv B K β Γ w) (hi:Γ[i]?=some (.vech E k rows x)) (ho:gB w' 0 E k x rows.length xs) (hr:ba K β xs rows.flatten)
  (hx:Ext (fun b=>x.ownBlock=some b) w w'):Inv B K β Γ w':=by
 obtain ⟨xs0,h1,h2,h3,h4,h5⟩:=h.ob i _ hi
 have en:∀ b,x.ownBlock=some b->(β i).blk=some b:=fun b hb=>by rw [h1];exact hb
 refine ⟨h.ext.step hx (fun j hj=>(h.own i j (en j hj)).symm),h.kle,h.ble,h.loc,h.fz.ext hx (fun b o g hg he=>by rw [h5 b he o] at hg;cases hg),fun j y hj=>?_,h.out,h.dis,h.own,h.kn,h.tab.step hx (fun j hj=>⟨i,en j hj⟩) (cm.refl K) (fun i b2 h=>.inl ⟨i,h⟩)⟩
 by_cases og:j=i
 ·subst og;rw [hi] at hj;cases hj;exact ⟨xs,h1,ho,hr,h4,h5⟩
 ·exact (h.ob j y hj).ext hx (fun b hb he=>og (h.dis j i b hb (en b he))) (cm.refl K) (cZ.refl β) rfl (fun _ _ _ h=>h)
theorem GL.Wl {s x:Operand} {t u e:Nat} [hT:CM P t e] [hU:pH P u] (i:Nat) {n:Nat} {dt:Tmp} {v:Value} {rows:List (List GV)} {str:ah} (hx:aY fr x=.v (sv str)) (hs:aY fr s=.v v) (bz:Γ[i]?=some (.vech e 1 rows v)) (hn:rows.length=n) (bP:str.isEmpty=false)
  (hb:n+str.length<=140737488355328)
  (h:∀ a c,GL P m ops Q rest (br fr (some dt) (.v (.slice a (n+str.length) c))) (oset Γ i (.vech e 1 (rows++cr str) (.slice a (n+str.length) c)))) :
  GL P m ops Q (⟨some dt,.call ⟨.builtin .append,#[s,x],#[t,u]⟩,ty,pos,af,none⟩::rest) fr Γ:=fun B K β w l hm hI hF=>by
 subst hn
 have bP:str≠[]:=by intro h0;rw [h0] at bP;cases bP
 obtain ⟨xs,o1,o2,o3,o4,o5⟩:=hI.ob i _ bz;have qx:ev l s=v:=hF.gV hs
 have jL:(cr str).flatten=str.map fun c=>GV.v (.int .u8 (c.toNat:Int)):=by
  unfold cr;clear hx bP hb h;generalize str=s
  induction s with
  | nil=>rfl
  | cons c r ih=>simp only [List.map_cons,flatten_cons,ih];rfl
 have hlen:(cr str).length=str.length:=by simp [cr]
 refine WL.BO (base:=0) (v:=v) (n:=rows.length) (xs:=xs) (str:=str) qx o2 (hF.gV hx) hb (Nat.zero_le _) ?_;intro v' w' how gJ tV ve
 obtain ⟨K',hK,qy,bg⟩:=(hI.ye bz).grow (fz:=0) (o7 bz) o1 ⟨o2,o3⟩ (news:=cr str) (ns:=kr str) (by rw [hlen];exact how) gJ tV (by rw [jL];exact (by
   have:(str.map fun c=>GV.v (.int .u8 (c.toNat:Int)))=lU (kr str):=by simp [lU,kr]
   rw [this];exact ba.self)) (fun r hr=>by
   simp only [cr,mem_map] at hr;obtain ⟨c,_,rfl⟩:=hr
   exact ⟨rfl,fun g hg=>by rw [mem_singleton] at hg;subst hg;rfl⟩) (by intro h0;exact bP (List.map_eq_nil_iff.1 h0)) (fun b bq o v ho hv=>by omega)
 rw [<-bd,nG] at bg;obtain ⟨a,c,pO,pj⟩:=bg.qI (o7 bz);rw [nG] at pj;obtain ⟨a',c',rfl⟩:=how.shape;rw [bo] at pO;simp only [length_append,hlen] at pO pj qy;cases pO;exact h _ _ B K' _ w' _ hm pj ((hF.mono hK qy).put (some dt) (.v _))
theorem GL.Wj {s x:Operand} {t u e:Nat} [hT:CM P t e] [hU:pH P u] (i:Nat) {rows:List (List GV)} {v:Value} (hx:aY fr x=.v (sv [])) (hs:aY fr s=.v v) (bz:Γ[i]?=some (.vech e 1 rows v)) (hb:rows.length<=140737488355328)
  (h:GL P m ops Q rest (br fr d (.v v)) Γ):GL P m ops Q (⟨d,.call ⟨.builtin .append,#[s,x],#[t,u]⟩,ty,pos,af,none⟩::rest) fr Γ:=fun B K β w l hm hI hF=>by
 obtain ⟨xs,o1,o2,o3,o4,o5⟩:=hI.ob i _ bz;have qx:=hF.gV hs;have rG:=hF.gV hx;obtain ⟨hu,i',hi,hz,cU,xD⟩:=hT.is;have rE:(⟨([]:ah).toArray⟩:ByteArray).size=0:=rfl;obtain ⟨v',w',hr,h2,h3,h4⟩:=Lib.run_append_own_string (P:=P) w 0 t u ty e i' hu hU.und hi hz cU xD v rows.length xs o2 ⟨([]:ah).toArray⟩ (by rw [rE];simp only [maxLen];omega) (by rw [rE];omega) (Nat.zero_le _)
 have Bc:v'=v:=by
  rcases o2.2 with ⟨rfl,h6⟩ | ⟨g,cap,cur,rfl,nC,hg,oH,wW,eK,Ba⟩
  ·exact h4.2 ⟨rfl,rfl⟩
  ·have UE:cur.size=cap:=by simpa using eK
   have dh:=Lib.run_append_room_string (P:=P) w t u ty e i' hu hU.und hi cU g rows.length cap cur hg ⟨([]:ah).toArray⟩ (by rw [rE];omega) (by unfold maxLen at wW;rw [rE];omega);rw [hr] at dh;cases dh;rfl
 subst Bc;have mV:(Builtin.append_ #[t,u] ty #[v',sv []]).run P w=.ok v' w':=hr;have eK:Lib.strCells ⟨([]:ah).toArray⟩=[]:=rfl;rw [eK,List.append_nil] at h2;have gJ:Ext (fun b=>v'.ownBlock=some b) w w':=⟨h3.os,h3.tape,h3.output,h3.size,fun j hj hn=>h3.block j hj fun he=>hn he.symm⟩;have bg:=hI.again bz h2 o3 gJ;exact WL.val (v:=v') (w':=w') (by simp [execOp,resolve,invoke,builtin,qx,rG,mV]) (h B K β w' _ hm bg (hF.put d (.v _)))
theorem YG.rN {x:Operand} {t:TypeId} (i:Nat) {E n c:Nat} {a:Option Addr} {rows:List (List GV)} (hx:aY fr x=.v (.slice a n c)) (bz:Γ[i]?=some (.vech E 1 rows (.slice a n c))) (hn:rows.length=n) (hp:Nat.blt 0 n=true) :
  YG P (.call ⟨.builtin .unsafeSliceData,#[x],#[t]⟩) fr Γ (.vp i n 1 0 0):=fun B K β w l hI hF=>by
 subst hn
 have hp:0 < rows.length:=by simpa using hp
 obtain ⟨xs,h1,h2,h3,h4,h5⟩:=hI.ob i _ bz;have hv:=hF.gV hx
 rcases h2.2 with ⟨h8,h9⟩ | ⟨g,cap,cur,h8,_,hg,oH,_⟩
 ·omega
 ·cases h8
  have hr:=fun ts ty=>Lib.run_unsafeSliceData_row (P:=P) (w:=w) ts ty ⟨g,0,none⟩ rows.length c ag
  exact ⟨.pointer (some ⟨g,0,none⟩),fun d ty pos af=>by simp [execOp,resolve,invoke,builtin,hv,hr],.vp i _ 1 0 0 _ ⟨_,_,h1,Nat.le_refl _,fun _=>⟨g,rfl,by simp⟩⟩⟩
theorem GL.Ou {x y:Operand} {pt it e:TypeId} (i:Nat) {str:ah} {rows:List (List GV)} {v:Value} (hp:P.underlying pt=some (.pointer e)) (hc:P.cellsOf e=1) (hx:aY fr x=.vp i str.length 1 0 0) (hy:aY fr y=.v (ii str.length)) (bz:Γ[i]?=some (.vech e 1 rows v)) (lh:rows=cr str)
  (bP:str.isEmpty=false) (hb:str.length<=140737488355328)
  (h:GL P m ops Q rest (br fr d (.v (sv str))) (oset Γ i .lost)):GL P m ops Q (⟨d,.call ⟨.builtin .unsafeString,#[x,y],#[pt,it]⟩,ty,pos,af,none⟩::rest) fr Γ:=fun B K β w l hm hI hF=>by
 have bP:str≠[]:=by intro h0;rw [h0] at bP;cases bP
 subst lh;obtain ⟨xs,o1,o2,o3,o4,o5⟩:=hI.ob i _ bz
 have hlen:(cr str).length=str.length:=by simp [cr]
 have hr:=hF.ev x;rw [hx] at hr;have Ve:=hF.gV hy;generalize hv:ev l x=u at hr
 cases hr with
 | vp _ _ _ _ _ _ hh =>
  obtain ⟨h0,mm,e1,e2,e3⟩:=hh;rw [e1] at o1;cases o1;obtain ⟨b,Rf,rfl⟩:=e3 hlen
  rcases o2.2 with ⟨h8,h9⟩ | ⟨g,cap,cur,h8,_,hg,oH,wW,eK,Ba⟩
  ·rw [hlen] at h9;exact absurd (List.eq_nil_of_length_eq_zero h9) bP
  ·subst h8;simp only [Value.ownBlock,Option.some.injEq] at Rf;subst Rf
   have px:xs=kr str:=by
    have jL:(cr str).flatten=lU (kr str):=by
     have:(cr str).flatten=str.map fun c=>GV.v (.int .u8 (c.toNat:Int)):=by
      unfold cr;generalize str=s
      induction s with
      | nil=>rfl
      | cons c r ih=>simp only [List.map_cons,flatten_cons,ih];rfl
     rw [this];simp [lU,kr]
    rw [jL] at o3;apply List.ext_getElem
    ·have:=o3.1;simpa [lU] using this
    ·intro j h1 h2;have:=o3.2 j xs[j] (.v (kr str)[j]) (by simp [h1]) (by simp [lU,h2]);exact Rel.eD this
   have lg:∀ j y,str[j]?=some y->w.cell? ((⟨g,0,none⟩:Addr).add j)=some (.int .u8 y.toNat):=fun j y hy=>by
    have:=World.ownsRow.cells (g:=g) o2 rfl j (.int .u8 y.toNat) (by rw [px];simp [kr,hy]);exact this
   have aac:(cr str).length<=cur.size:=by rw [eK];omega
   have mV:=Lib.run_unsafeString_row (P:=P) w pt it ty e hp hc g cur.size (by simp [World.shape?,hg]) str bP ag ag lg
   have gJ:Ext (·=g) w (w.freeze ⟨g,0,none⟩ str.length):=by
    have:=Lib.below_freeze (Below.refl 0 w) (p:=⟨g,0,none⟩) (Nat.zero_le g) str.length
    exact ⟨this.os,this.tape,this.output,this.size,fun k hk hn=>by
     unfold World.freeze;split
     ·rfl
     ·simp only [Array.getElem?_modify]
      rw [if_neg (fun he=>hn he.symm)]⟩
   have en:(β i).blk=some g:=by rw [e1];rfl
   have bg:Inv B K β (oset Γ i .lost) (w.freeze ⟨g,0,none⟩ str.length):=by
    refine ⟨hI.ext.step gJ (fun j hj=>by subst hj;exact (hI.own i _ en).symm),hI.kle,hI.ble,hI.loc,hI.fz.ext gJ (fun b o g' lr he=>by subst he;rw [o5 _ rfl o] at lr;cases lr),fun j y hj=>?_,fun j hj=>hI.out j (by simpa [bd] using hj),hI.dis,hI.own,hI.kn,hI.tab.step gJ (fun j hj=>⟨i,by subst hj;exact en⟩) (cm.refl K) (fun i b2 h=>.inl ⟨i,h⟩)⟩;rw [bd,List.getElem?_set] at hj;split at hj
    ·rename_i eR;split at hj
     ·cases hj;subst eR
      intro b bq;rw [en] at bq;cases bq;have:=rK hg;exact Nat.lt_of_lt_of_le this gJ.size
     ·cases hj
    ·rename_i eR;exact (hI.ob j y hj).ext gJ (fun b hb he=>by subst he;exact eR (hI.dis i j _ en hb)) (cm.refl K) (cZ.refl β) rfl (fun _ _ _ h=>h)
   exact WL.val (v:=sv str) (w':=w.freeze ⟨g,0,none⟩ str.length) (by simp [execOp,resolve,invoke,builtin,hv,Ve,mV,sv]) (h B K β _ _ hm bg (hF.put d (.v _)))
theorem Inv.QV {B:Bs} {K:Fz} {β:Bt} {Γ:List Ob} {w:World} {x:Bk} {y:Ob} (h:Inv B K β Γ w) (hd:∀ b,x.blk=some b->(∀ i,(β i).blk≠some b)/\B.w0.heap.size<=b/\(b≠3/\b≠0))
  (ho:kg K (fa β Γ.length x) w Γ.length y) (hold:cZ β (fa β Γ.length x)):Inv B K (fa β Γ.length x) (Γ++[y]) w:=by
 refine ⟨h.ext,h.kle,h.ble.trans hold,h.loc,h.fz,fun i z hi=>?_,fun i hi=>?_,fun i j b hi hj=>?_,fun i b hi=>?_,h.kn,⟨h.tab.le,h.tab.pow,h.tab.spc,fun i b hi=>?_⟩⟩
 ·by_cases r7:i < Γ.length
  ·rw [getElem?_append_left r7] at hi;exact (h.ob i z hi).ext (S:=gq) (Ext.refl w) (fun _ _ h=>h) (cm.refl K) hold (bE ag) (fun _ _ _ h=>h)
  ·have:i=Γ.length:=by have:=(List.getElem?_eq_some_iff.1 hi).1;simp at this;omega
   subst this;simp at hi;subst hi;exact ho
 ·simp at hi;rw [bE ag];exact h.out i ag
 ·by_cases h1:i=Γ.length <;> by_cases h2:j=Γ.length
  ·omega
  ·subst h1;rw [bo] at hi;rw [bE h2] at hj;exact absurd hj ((hd b hi).1 j)
  ·subst h2;rw [bo] at hj;rw [bE h1] at hi;exact absurd hi ((hd b hj).1 i)
  ·rw [bE h1] at hi;rw [bE h2] at hj;exact h.dis i j b hi hj
 ·rcases lT hi with h1 | h1
  ·exact .inr (hd b h1).2.1
  ·exact h.own i b h1
 ·rcases lT hi with h1 | h1
  ·exact (hd b h1).2.2
  ·exact h.tab.free i b h1
theorem YG.Xt {x lo:Operand} {t e:TypeId} {k:Nat} [hT:mj P t e k] {rows:List (List GV)} {kk:IntKind} {i:Nat} (hx:aY fr x=.sl k rows) (fX:aY fr lo=.v (.int kk i)) (hi:Nat.blt i rows.length=true):YG P (.slice t x (some lo) none none) fr Γ (.sl k (rows.drop i)):=fun B K β w l hI hF=>by
 have hi:i < rows.length:=by simpa using hi
 have h:=hF.ev x;rw [hx] at h;have Iy:=hF.gV fX;generalize hv:ev l x=v at h
 cases h with
 | sl0 a c=>simp at hi
 | sl b o c _ _ h hc =>
  refine ⟨.slice (some ⟨b,o+i * k,none⟩) (rows.length - i) (c - i),fun d ty pos af=>?_,?_⟩
  ·have od:¬ (c=i):=by omega
   have hle:(i:Int)<=(rows.length:Int):=by omega
   simp [execOp,Instr.sliceAt,Instr.slice,Instr.sliceBounds,Instr.sliceBound,asIntOf,hv,Iy,run_underlying hT.und,iJ hT.siz,od,Nat.le_of_lt hi,pI]
  ·have:=Rel.sl (K:=K) (β:=β) b (o+i * k) (c - i) k (rows.drop i) (fun j r hr=>?_) (by simp;omega)
   ·rw [List.length_drop] at this;exact this
   ·rw [List.getElem?_drop] at hr;refine ⟨(h (i+j) r hr).1,fun q g hg=>?_⟩;have:=(h (i+j) r hr).2 q g hg;rw [Nat.add_mul] at this;rw [show o+i * k+j * k+q=o+(i * k+j * k)+q by omega];exact this
theorem YG.tD {x lo:Operand} {t e:TypeId} {k:Nat} [hT:mj P t e k] {rows:List (List GV)} {kk:IntKind} {n:Int} (i:Nat) (hx:aY fr x=.sl k rows) (fX:aY fr lo=.v (.int kk n)) (hn:n=(i:Int)) (hi:Nat.blt i rows.length=true):YG P (.slice t x (some lo) none none) fr Γ (.sl k (rows.drop i)):=by
 subst hn;exact YG.Xt hx fX hi
end
end Go.Xg
namespace Go.Proofs
open Go.Shelf
theorem cy {α:Type} {a:Option α} {b c:α} (h:a=some b) (k:b=c:=by kernel_rfl):a=some c:=h.trans (congrArg some k)
def Tryz.zt:Go.Shelf.Ren:=⟨fun | 165=>228 | 240=>263 | 241=>264 | 276=>285 | 277=>286 | n=>n,fun | 70=>225 | 3=>3 | 0=>0 | 4=>4 | 9=>9 | 20=>20 | 72=>227 | 37=>143 | 164=>270 | 5=>5 | n=>n,fun | n=>n⟩
theorem Tryz.SR:Go.Proofs.Lays.n165 Tryz.prog Tryz.zt:={
 mixed:=by kernel_rfl
 cy f165:=Tryz.func228
 cy f240:=Tryz.func263
 cy f241:=Tryz.func264
 cy f276:=Tryz.func285
 cy f277:=Tryz.func286
 t0:=Tryz.underlying0
 a0:=Tryz.isAgg0
 z0:=Tryz.sizeOf0
 v0:=Tryz.zeroValue0
 t3:=Tryz.underlying3
 a3:=Tryz.isAgg3
 z3:=Tryz.sizeOf3
 v3:=Tryz.zeroValue3
 t4:=Tryz.underlying4
 a4:=Tryz.isAgg4
 z4:=Tryz.sizeOf4
 v4:=Tryz.zeroValue4
 t9:=Tryz.underlying9
 a9:=Tryz.isAgg9
 z9:=Tryz.sizeOf9
 v9:=Tryz.zeroValue9
 t20:=Tryz.underlying20
 a20:=Tryz.isAgg20
 z20:=Tryz.sizeOf20
 v20:=Tryz.zeroValue20
 t37:=Tryz.underlying143
 a37:=Tryz.isAgg143
 z37:=Tryz.sizeOf143
 v37:=Tryz.zeroValue143
 t70:=Tryz.underlying225
 a70:=Tryz.isAgg225
 z70:=Tryz.sizeOf225
 v70:=Tryz.zeroValue225
 t72:=Tryz.underlying227
 a72:=Tryz.isAgg227
 z72:=Tryz.sizeOf227
 v72:=Tryz.zeroValue227
 t164:=Tryz.underlying270
 a164:=Tryz.isAgg270
 z164:=Tryz.sizeOf270
 v164:=Tryz.zeroValue270 }
theorem Tryz.yW:Builder.Extra Tryz.prog Tryz.zt:={
 sizeBuilder:=by kernel_rfl
 liesBuilder:=by kernel_rfl
 t5:=Tryz.underlying5
 a5:=Tryz.isAgg5
 z5:=Tryz.sizeOf5
 v5:=Tryz.zeroValue5
 infoByte:=by kernel_rfl
 cellsByte:=by kernel_rfl
 sizeByte:=by kernel_rfl
 neB5:=by decide }
open Go.RowKit in
theorem Tryz.Builder_Grow_fresh (B b n:Nat) (w:World) (hB:B<=b) (en:w.heap[b]?=some (.cells #[.pointer none,.slice none 0 0] 227 (0,0))) (hBw:B<=w.heap.size) (hn:n<=281474976710656) :
  Calls Tryz.prog 228 #[.pointer (some ⟨b,0,none⟩),.int .i64 n] w fun e w'=>e=.returned (.tuple #[])/\(Lib.BuilderAt 227 5 B b (.pointer (some ⟨b,0,none⟩)) [] w'/\Below B w w'):=Any.Builder_Grow_fresh Tryz.SR Tryz.yW B b n w hB en hBw hn
def Tryz.Ht:Go.Shelf.Ren:=⟨fun | 137=>202 | 217=>235 | 266=>266 | n=>n,fun | 9=>9 | 5=>5 | 3=>3 | n=>n,fun | n=>n⟩
theorem Tryz.SP:Go.Proofs.Lays.n137 Tryz.prog Tryz.Ht:={
 mixed:=by kernel_rfl
 cy f137:=Tryz.func202
 cy f217:=Tryz.func235
 cy f266:=Tryz.func266
 t3:=Tryz.underlying3
 a3:=Tryz.isAgg3
 z3:=Tryz.sizeOf3
 v3:=Tryz.zeroValue3
 t5:=Tryz.underlying5
 a5:=Tryz.isAgg5
 z5:=Tryz.sizeOf5
 v5:=Tryz.zeroValue5
 t9:=Tryz.underlying9
 a9:=Tryz.isAgg9
 z9:=Tryz.sizeOf9
 v9:=Tryz.zeroValue9 }
open Go.RowKit in
theorem Tryz.strings_IndexByte (s:ByteArray) (c:Int) (w:World) :
  Calls Tryz.prog 202 #[.string s,.int .u8 c] w fun e w'=>e=.returned (.int .i64 (Lib.indexByte s.data.toList c.toNat.toUInt8))/\w'=w:=Any.strings_IndexByte Tryz.SP s c w
def Tryz.Vp:Go.Shelf.Ren:=⟨fun | 246=>262 | 283=>281 | 284=>282 | 285=>283 | 286=>284 | 129=>184 | 317=>295 | 318=>296 | 319=>297 | 320=>298 | 337=>302 | 338=>303 | n=>n,fun | 2=>2 | 3=>3 | 9=>9 | 4=>4 | 171=>266 | 0=>0 | 53=>177 | 37=>143 | 5=>5 | 173=>268 | 212=>287 | 51=>175 | 20=>20 | 213=>288 | 46=>142 | 232=>294 | 233=>295 | n=>n,fun | 17=>3 | 18=>4 | 19=>5 | n=>n⟩
def Tryz.Vo:Go.Shelf.Ren:=⟨fun | 243=>227 | 246=>262 | 283=>281 | 284=>282 | 285=>283 | 286=>284 | 129=>184 | 317=>295 | 318=>296 | 319=>297 | 320=>298 | 337=>302 | 338=>303 | n=>n,fun | 3=>3 | 9=>9 | 2=>2 | 4=>4 | 171=>266 | 0=>0 | 53=>177 | 37=>143 | 5=>5 | 173=>268 | 212=>287 | 51=>175 | 20=>20 | 213=>288 | 46=>142 | 232=>294 | 233=>295 | n=>n,fun | 17=>3 | 18=>4 | 19=>5 | n=>n⟩
def Tryz.FL:Go.Shelf.Ren:=⟨fun | 171=>195 | 243=>227 | 246=>262 | 283=>281 | 284=>282 | 285=>283 | 286=>284 | 129=>184 | 317=>295 | 318=>296 | 319=>297 | 320=>298 | 337=>302 | 338=>303 | n=>n,fun | 3=>3 | 9=>9 | 2=>2 | 4=>4 | 171=>266 | 0=>0 | 53=>177 | 37=>143 | 5=>5 | 173=>268 | 212=>287 | 51=>175 | 20=>20 | 213=>288 | 46=>142 | 232=>294 | 233=>295 | n=>n,fun | 17=>3 | 18=>4 | 19=>5 | n=>n⟩
theorem Tryz.PY:Go.Proofs.LaysM.n171 Tryz.prog Tryz.FL:={
 mixed:=by kernel_rfl
 cy f129:=Tryz.func184
 cy f171:=Tryz.func195
 cy f243:=Tryz.func227
 cy f246:=Tryz.func262
 cy f283:=Tryz.func281
 cy f284:=Tryz.func282
 cy f285:=Tryz.func283
 cy f286:=Tryz.func284
 cy f317:=Tryz.func295
 cy f318:=Tryz.func296
 cy f319:=Tryz.func297
 cy f320:=Tryz.func298
 cy f337:=Tryz.func302
 cy f338:=Tryz.func303
 t0:=Tryz.underlying0
 a0:=Tryz.isAgg0
 z0:=Tryz.sizeOf0
 v0:=Tryz.zeroValue0
 t2:=Tryz.underlying2
 a2:=Tryz.isAgg2
 z2:=Tryz.sizeOf2
 v2:=Tryz.zeroValue2
 t3:=Tryz.underlying3
 a3:=Tryz.isAgg3
 z3:=Tryz.sizeOf3
 v3:=Tryz.zeroValue3
 t4:=Tryz.underlying4
 a4:=Tryz.isAgg4
 z4:=Tryz.sizeOf4
 v4:=Tryz.zeroValue4
 t5:=Tryz.underlying5
 a5:=Tryz.isAgg5
 z5:=Tryz.sizeOf5
 v5:=Tryz.zeroValue5
 t9:=Tryz.underlying9
 a9:=Tryz.isAgg9
 z9:=Tryz.sizeOf9
 v9:=Tryz.zeroValue9
 t20:=Tryz.underlying20
 a20:=Tryz.isAgg20
 z20:=Tryz.sizeOf20
 v20:=Tryz.zeroValue20
 t37:=Tryz.underlying143
 a37:=Tryz.isAgg143
 z37:=Tryz.sizeOf143
 v37:=Tryz.zeroValue143
 t46:=Tryz.underlying142
 a46:=Tryz.isAgg142
 z46:=Tryz.sizeOf142
 v46:=Tryz.zeroValue142
 t51:=Tryz.underlying175
 a51:=Tryz.isAgg175
 z51:=Tryz.sizeOf175
 v51:=Tryz.zeroValue175
 t53:=Tryz.underlying177
 a53:=Tryz.isAgg177
 z53:=Tryz.sizeOf177
 v53:=Tryz.zeroValue177
 t171:=Tryz.underlying266
 a171:=Tryz.isAgg266
 z171:=Tryz.sizeOf266
 v171:=Tryz.zeroValue266
 t173:=Tryz.underlying268
 a173:=Tryz.isAgg268
 z173:=Tryz.sizeOf268
 v173:=Tryz.zeroValue268
 t212:=Tryz.underlying287
 a212:=Tryz.isAgg287
 z212:=Tryz.sizeOf287
 v212:=Tryz.zeroValue287
 t213:=Tryz.underlying288
 a213:=Tryz.isAgg288
 z213:=Tryz.sizeOf288
 t232:=Tryz.underlying294
 a232:=Tryz.isAgg294
 z232:=Tryz.sizeOf294
 v232:=Tryz.zeroValue294
 t233:=Tryz.underlying295
 a233:=Tryz.isAgg295
 z233:=Tryz.sizeOf295
 v233:=Tryz.zeroValue295
 g17:=by kernel_rfl
 g18:=by kernel_rfl
 g19:=by kernel_rfl
 i0:=by kernel_rfl
 i2:=by kernel_rfl
 i3:=by kernel_rfl
 i4:=by kernel_rfl
 i5:=by kernel_rfl
 i9:=by kernel_rfl
 i20:=by kernel_rfl
 i37:=by kernel_rfl
 i46:=by kernel_rfl
 i51:=by kernel_rfl
 i53:=by kernel_rfl
 i171:=by kernel_rfl
 i173:=by kernel_rfl
 i212:=by kernel_rfl
 i232:=by kernel_rfl
 i233:=by kernel_rfl
 m17:=by kernel_rfl
 m18:=by kernel_rfl
 m19:=by kernel_rfl }
open Go.RowKit Go.Sort Go.Lib in
theorem Tryz.strconv_Itoa (n:Int) (h0 : -9223372036854775808<=n) (h1:n<=9223372036854775807) (w:World) (z6:Lib.TabIs Tryz.prog w "internal/strconv.uint64pow10" .u64 Lib.pow10Tab) :
  Calls Tryz.prog 195 #[.int .i64 n] w fun e w'=>e=.returned (.string ⟨(Lib.itoa n).toArray⟩)/\∃ k os,w'=grow (w.drewN k) os:=Any.strconv_Itoa Tryz.PY n h0 h1 w z6
def Tryz.Wf:Go.Shelf.Ren:=⟨fun | 219=>237 | 217=>235 | 225=>267 | 224=>268 | 267=>269 | 266=>266 | 314=>287 | n=>n,fun | 9=>9 | 3=>3 | 4=>4 | 5=>5 | 46=>142 | 146=>273 | 51=>175 | n=>n,fun | 1=>1 | n=>n⟩
def Tryz.Hu:Go.Shelf.Ren:=⟨fun | 143=>204 | 219=>237 | 217=>235 | 225=>267 | 224=>268 | 267=>269 | 266=>266 | 314=>287 | n=>n,fun | 9=>9 | 3=>3 | 4=>4 | 5=>5 | 46=>142 | 146=>273 | 51=>175 | n=>n,fun | 1=>1 | n=>n⟩
theorem Tryz.SQ:Go.Proofs.Lays.n143 Tryz.prog Tryz.Hu:={
 mixed:=by kernel_rfl
 cy f143:=Tryz.func204
 cy f217:=Tryz.func235
 cy f219:=Tryz.func237
 cy f224:=Tryz.func268
 cy f225:=Tryz.func267
 cy f266:=Tryz.func266
 cy f267:=Tryz.func269
 cy f314:=Tryz.func287
 t3:=Tryz.underlying3
 a3:=Tryz.isAgg3
 z3:=Tryz.sizeOf3
 v3:=Tryz.zeroValue3
 t4:=Tryz.underlying4
 a4:=Tryz.isAgg4
 z4:=Tryz.sizeOf4
 v4:=Tryz.zeroValue4
 t5:=Tryz.underlying5
 a5:=Tryz.isAgg5
 z5:=Tryz.sizeOf5
 v5:=Tryz.zeroValue5
 t9:=Tryz.underlying9
 a9:=Tryz.isAgg9
 z9:=Tryz.sizeOf9
 v9:=Tryz.zeroValue9
 t46:=Tryz.underlying142
 a46:=Tryz.isAgg142
 z46:=Tryz.sizeOf142
 v46:=Tryz.zeroValue142
 t51:=Tryz.underlying175
 a51:=Tryz.isAgg175
 z51:=Tryz.sizeOf175
 v51:=Tryz.zeroValue175
 t146:=Tryz.underlying273
 a146:=Tryz.isAgg273
 z146:=Tryz.sizeOf273
 v146:=Tryz.zeroValue273
 g1:=by kernel_rfl }
open Go.RowKit Go.Lib in
theorem Tryz.strings_Index (s sub:ByteArray) (m:Int) (w:World) (hs:s.size < 4294967281) (hm:w.cell? ⟨1,0,none⟩=some (.int .i64 m)) :
  Calls Tryz.prog 204 #[.string s,.string sub] w fun e w'=>e=.returned (.int .i64 (Lib.index s.data.toList sub.data.toList))/\w'=w:=Any.strings_Index Tryz.SQ s sub m w hs hm
def Tryz.Hv:Go.Shelf.Ren:=⟨fun | 189=>105 | 125=>142 | 257=>141 | 128=>183 | 129=>184 | 294=>174 | 295=>175 | 296=>176 | 297=>177 | 298=>178 | 299=>179 | 216=>180 | 300=>181 | 301=>182 | 328=>210 | 329=>211 | 330=>212 | 331=>213 | 332=>214 | 215=>215 | 343=>246 | n=>n,fun | 28=>40 | 3=>3 | 46=>142 | 0=>0 | 51=>175 | 53=>177 | 4=>4 | 183=>167 | 182=>166 | 131=>172 | 5=>5 | 9=>9 | 218=>210 | 222=>214 | 228=>242 | 229=>108 | n=>n,fun | n=>n⟩
theorem Tryz.IP:Go.Proofs.Lays.n189 Tryz.prog Tryz.Hv:={
 mixed:=by kernel_rfl
 cy f125:=Tryz.func142
 cy f128:=Tryz.func183
 cy f129:=Tryz.func184
 cy f189:=Tryz.func105
 cy f215:=Tryz.func215
 cy f216:=Tryz.func180
 cy f257:=Tryz.func141
 cy f294:=Tryz.func174
 cy f295:=Tryz.func175
 cy f296:=Tryz.func176
 cy f297:=Tryz.func177
 cy f298:=Tryz.func178
 cy f299:=Tryz.func179
 cy f300:=Tryz.func181
 cy f301:=Tryz.func182
 cy f328:=Tryz.func210
 cy f329:=Tryz.func211
 cy f330:=Tryz.func212
 cy f331:=Tryz.func213
 cy f332:=Tryz.func214
 cy f343:=Tryz.func246
 t0:=Tryz.underlying0
 a0:=Tryz.isAgg0
 z0:=Tryz.sizeOf0
 v0:=Tryz.zeroValue0
 t3:=Tryz.underlying3
 a3:=Tryz.isAgg3
 z3:=Tryz.sizeOf3
 v3:=Tryz.zeroValue3
 t4:=Tryz.underlying4
 a4:=Tryz.isAgg4
 z4:=Tryz.sizeOf4
 v4:=Tryz.zeroValue4
 t5:=Tryz.underlying5
 a5:=Tryz.isAgg5
 z5:=Tryz.sizeOf5
 v5:=Tryz.zeroValue5
 t9:=Tryz.underlying9
 a9:=Tryz.isAgg9
 z9:=Tryz.sizeOf9
 v9:=Tryz.zeroValue9
 t28:=Tryz.underlying40
 a28:=Tryz.isAgg40
 z28:=Tryz.sizeOf40
 v28:=Tryz.zeroValue40
 t46:=Tryz.underlying142
 a46:=Tryz.isAgg142
 z46:=Tryz.sizeOf142
 v46:=Tryz.zeroValue142
 t51:=Tryz.underlying175
 a51:=Tryz.isAgg175
 z51:=Tryz.sizeOf175
 v51:=Tryz.zeroValue175
 t53:=Tryz.underlying177
 a53:=Tryz.isAgg177
 z53:=Tryz.sizeOf177
 v53:=Tryz.zeroValue177
 t131:=Tryz.underlying172
 a131:=Tryz.isAgg172
 z131:=Tryz.sizeOf172
 v131:=Tryz.zeroValue172
 t182:=Tryz.underlying166
 a182:=Tryz.isAgg166
 z182:=Tryz.sizeOf166
 v182:=Tryz.zeroValue166
 t183:=Tryz.underlying167
 a183:=Tryz.isAgg167
 z183:=Tryz.sizeOf167
 v183:=Tryz.zeroValue167
 t218:=Tryz.underlying210
 a218:=Tryz.isAgg210
 z218:=Tryz.sizeOf210
 v218:=Tryz.zeroValue210
 t222:=Tryz.underlying214
 a222:=Tryz.isAgg214
 z222:=Tryz.sizeOf214
 v222:=Tryz.zeroValue214
 t228:=Tryz.underlying242
 a228:=Tryz.isAgg242
 z228:=Tryz.sizeOf242
 v228:=Tryz.zeroValue242
 t229:=Tryz.underlying108
 a229:=Tryz.isAgg108
 z229:=Tryz.sizeOf108
 v229:=Tryz.zeroValue108 }
open Go.Sort Go.RowKit in
theorem Tryz.slices_Sort_int (blk off cap:Nat) (zs:List Int) (w:World) (hH:Holds (Value.int .i64) w blk off zs.toArray) (dk:blk < w.heap.size) (cU:zs.length < 4611686018427387904) :
  Calls Tryz.prog 105 #[.slice (some ⟨blk,off,none⟩) zs.length cap] w fun e w' =>
   e=.returned (.tuple #[])/\∃ n os,w'=grow (putRow (Value.int .i64) (Sort.ahead w n) blk off (zs.mergeSort fun x y=>decide (x<=y)).toArray) os:=Any.slices_Sort_int Tryz.IP blk off cap zs w hH dk cU
def Tryz.We:Go.Shelf.Ren:=⟨fun | 157=>216 | 229=>247 | 199=>248 | 261=>274 | 311=>290 | 312=>291 | n=>n,fun | 9=>9 | 31=>22 | 3=>3 | 5=>5 | 4=>4 | 119=>244 | 0=>0 | 40=>246 | 152=>259 | 21=>21 | 154=>261 | 51=>175 | 141=>263 | 196=>278 | 193=>275 | 198=>281 | 49=>279 | 194=>276 | 201=>284 | 226=>290 | 46=>142 | 227=>291 | n=>n,fun | 0=>0 | 6=>2 | n=>n⟩
def Tryz.FK:Go.Shelf.Ren:=⟨fun | 157=>216 | 229=>247 | 199=>248 | 261=>274 | 311=>290 | 312=>291 | n=>n,fun | 9=>9 | 31=>22 | 3=>3 | 5=>5 | 4=>4 | 119=>244 | 0=>0 | 40=>246 | 152=>259 | 21=>21 | 154=>261 | 51=>175 | 141=>263 | 196=>278 | 193=>275 | 198=>281 | 49=>279 | 194=>276 | 201=>284 | 226=>290 | 46=>142 | 227=>291 | n=>n,fun | 0=>0 | 6=>2 | n=>n⟩
theorem Tryz.PW:Go.Proofs.LaysM.n157 Tryz.prog Tryz.FK:={
 mixed:=by kernel_rfl
 cy f157:=Tryz.func216
 cy f199:=Tryz.func248
 cy f229:=Tryz.func247
 cy f261:=Tryz.func274
 cy f311:=Tryz.func290
 cy f312:=Tryz.func291
 t0:=Tryz.underlying0
 a0:=Tryz.isAgg0
 z0:=Tryz.sizeOf0
 v0:=Tryz.zeroValue0
 t3:=Tryz.underlying3
 a3:=Tryz.isAgg3
 z3:=Tryz.sizeOf3
 v3:=Tryz.zeroValue3
 t4:=Tryz.underlying4
 a4:=Tryz.isAgg4
 z4:=Tryz.sizeOf4
 v4:=Tryz.zeroValue4
 t5:=Tryz.underlying5
 a5:=Tryz.isAgg5
 z5:=Tryz.sizeOf5
 v5:=Tryz.zeroValue5
 t9:=Tryz.underlying9
 a9:=Tryz.isAgg9
 z9:=Tryz.sizeOf9
 v9:=Tryz.zeroValue9
 t21:=Tryz.underlying21
 a21:=Tryz.isAgg21
 z21:=Tryz.sizeOf21
 v21:=Tryz.zeroValue21
 t31:=Tryz.underlying22
 a31:=Tryz.isAgg22
 z31:=Tryz.sizeOf22
 v31:=Tryz.zeroValue22
 t40:=Tryz.underlying246
 a40:=Tryz.isAgg246
 z40:=Tryz.sizeOf246
 v40:=Tryz.zeroValue246
 t46:=Tryz.underlying142
 a46:=Tryz.isAgg142
 z46:=Tryz.sizeOf142
 v46:=Tryz.zeroValue142
 t49:=Tryz.underlying279
 a49:=Tryz.isAgg279
 z49:=Tryz.sizeOf279
 v49:=Tryz.zeroValue279
 t51:=Tryz.underlying175
 a51:=Tryz.isAgg175
 z51:=Tryz.sizeOf175
 v51:=Tryz.zeroValue175
 t119:=Tryz.underlying244
 a119:=Tryz.isAgg244
 z119:=Tryz.sizeOf244
 t141:=Tryz.underlying263
 a141:=Tryz.isAgg263
 z141:=Tryz.sizeOf263
 v141:=Tryz.zeroValue263
 t152:=Tryz.underlying259
 a152:=Tryz.isAgg259
 z152:=Tryz.sizeOf259
 v152:=Tryz.zeroValue259
 t154:=Tryz.underlying261
 a154:=Tryz.isAgg261
 z154:=Tryz.sizeOf261
 v154:=Tryz.zeroValue261
 t193:=Tryz.underlying275
 a193:=Tryz.isAgg275
 z193:=Tryz.sizeOf275
 v193:=Tryz.zeroValue275
 t194:=Tryz.underlying276
 a194:=Tryz.isAgg276
 z194:=Tryz.sizeOf276
 v194:=Tryz.zeroValue276
 t196:=Tryz.underlying278
 a196:=Tryz.isAgg278
 z196:=Tryz.sizeOf278
 v196:=Tryz.zeroValue278
 t198:=Tryz.underlying281
 a198:=Tryz.isAgg281
 z198:=Tryz.sizeOf281
 v198:=Tryz.zeroValue281
 t201:=Tryz.underlying284
 a201:=Tryz.isAgg284
 z201:=Tryz.sizeOf284
 v201:=Tryz.zeroValue284
 t226:=Tryz.underlying290
 a226:=Tryz.isAgg290
 z226:=Tryz.sizeOf290
 v226:=Tryz.zeroValue290
 t227:=Tryz.underlying291
 a227:=Tryz.isAgg291
 z227:=Tryz.sizeOf291
 v227:=Tryz.zeroValue291
 g0:=by kernel_rfl
 g6:=by kernel_rfl
 i0:=by kernel_rfl
 i3:=by kernel_rfl
 i4:=by kernel_rfl
 i5:=by kernel_rfl
 i9:=by kernel_rfl
 i21:=by kernel_rfl
 i31:=by kernel_rfl
 i40:=by kernel_rfl
 i46:=by kernel_rfl
 i49:=by kernel_rfl
 i51:=by kernel_rfl
 i141:=by kernel_rfl
 i152:=by kernel_rfl
 i154:=by kernel_rfl
 i193:=by kernel_rfl
 i194:=by kernel_rfl
 i196:=by kernel_rfl
 i198:=by kernel_rfl
 i201:=by kernel_rfl
 i226:=by kernel_rfl
 i227:=by kernel_rfl
 m0:=by kernel_rfl
 m6:=by kernel_rfl }
open Go.RowKit Go.Lib in
theorem Tryz.strings_Fields_laid (s:ByteArray) (w:World) (hs:s.size < 4294967281) (UA:∀ (j:Nat) b,s.data.toList[j]?=some b->b.toNat < 128) (z6:Lib.TabIs Tryz.prog w "strings.asciiSpace" .u8 Lib.asciiSpaceTab) :
  Calls Tryz.prog 216 #[.string s] w fun e w' =>
   e=.returned (.slice (some ⟨w.heap.size,0,none⟩) (Lib.fields s.data.toList).length (Lib.fields s.data.toList).length)/\w'=w.alloc (.cells ((Lib.fields s.data.toList).map fun l=>Value.string ⟨l.toArray⟩).toArray 9):=Any.strings_Fields_laid Tryz.PW s w hs UA z6
def Tryz.D2:Go.Shelf.Ren:=⟨fun | 20=>106 | n=>n,fun | 22=>40 | 3=>3 | 4=>4 | 0=>0 | n=>n,fun | n=>n⟩
theorem Tryz.Ds:Go.Proofs.Lays2.n20 Tryz.prog Tryz.D2:={
 mixed:=by kernel_rfl
 cy f20:=Tryz.func106
 t0:=Tryz.underlying0
 a0:=Tryz.isAgg0
 z0:=Tryz.sizeOf0
 v0:=Tryz.zeroValue0
 t3:=Tryz.underlying3
 a3:=Tryz.isAgg3
 z3:=Tryz.sizeOf3
 v3:=Tryz.zeroValue3
 t4:=Tryz.underlying4
 a4:=Tryz.isAgg4
 z4:=Tryz.sizeOf4
 v4:=Tryz.zeroValue4
 t22:=Tryz.underlying40
 a22:=Tryz.isAgg40
 z22:=Tryz.sizeOf40
 v22:=Tryz.zeroValue40
 i3:=by kernel_rfl }
open Go.RowKit Go.Lib Go.Sort in
theorem Tryz.slices_Compact_int (blk off cap:Nat) (zs:List Int) (w:World) (hH:Holds (Value.int .i64) w blk off zs.toArray) (cU:zs.length<=9223372036854775807) (Pu:zs.length<=cap) :
  Calls Tryz.prog 106 #[.slice (some ⟨blk,off,none⟩) zs.length cap] w fun e w'=>e=.returned (.slice (some ⟨blk,off,none⟩) (Lib.compact zs).length cap)/\∃ q,w'=putRow (Value.int .i64) (Sort.ahead w q) blk off (Lib.compact zs++List.replicate (zs.length - (Lib.compact zs).length) 0).toArray:=Any.slices_Compact_int Tryz.Ds blk off cap zs w hH cU Pu
open Go.RowKit Go.Lib Go.Sort in
theorem Tryz.slices_Compact_int_empty (a:Option Addr) (cap:Nat) (w:World) :
  Calls Tryz.prog 106 #[.slice a 0 cap] w fun e w'=>e=.returned (.slice a 0 cap)/\w'=w:=Any.slices_Compact_int_empty Tryz.Ds a cap w
open Go.RowKit Go.Sort in
theorem Tryz.slices_Sort_int_none (p:Option Addr) (cap:Nat) (w:World) :
  Calls Tryz.prog 105 #[.slice p 0 cap] w fun e w'=>e=.returned (.tuple #[])/\w'=w:=Any.slices_Sort_int_none Tryz.IP p cap w
end Go.Proofs
set_option maxHeartbeats 1000000
namespace Go.Xg
open Go.RowKit Go.Xw Go.Proofs
attribute [local irreducible] GW GL GO YG GC GA aV aZ
instance:CM Tryz.prog 143 5:=CM.mk' (aj)
instance:BM Tryz.prog 225:=BM.mk' (e:=227) (aj) (aj)
theorem Hh (g:Value):GF Tryz.prog 263 [.loc 0 0] [.box 227 [.loc 0 0,.v g]] (.tup []) [.box 227 [.loc 0 0,.v g]]:=by
 refine ai Tryz.func263 Tryz.ntmps263 ?_;exact fU
theorem rT (s:ah) (n:Nat) (a:Option Addr) (c:Nat) (rows:List (List GV)) (hn:rows.length=n) (hb:n+s.length<=140737488355328) :
  GC Tryz.prog 229 [.loc 0 0,.v (sv s)] [.box 227 [.loc 0 0,.v (.slice a n c)],.vech 5 1 rows (.slice a n c)] (fun g aK=>(∃ x,g=.tup [.v (ii s.length),x])/\∃ a c,aK=[.box 227 [.loc 0 0,.v (.slice a (n+s.length) c)],.vech 5 1 (rows++cr s) (.slice a (n+s.length) c)]):=by
 subst hn;have h:=Hh (.slice a rows.length c)
 cases s with
 | nil =>
  refine ai Tryz.func229 Tryz.ntmps229 ?_;refine ab [0] h ?_;refine GL.Wj 1 rfl rfl rfl (by simpa using hb) ?_;refine bJ ?_;refine ae ?_;refine yR ?_;exact ⟨⟨_,rfl⟩,a,c,by simp [cr]⟩
 | cons x r =>
  generalize hs:x::r=s at *
  have bP:s.isEmpty=false:=by rw [<-hs];rfl
  clear hs;refine ai Tryz.func229 Tryz.ntmps229 ?_;refine ab [0] h ?_;refine GL.Wl 1 rfl rfl rfl aR bD ag ?_;intro a2 c2;refine bJ ?_;refine ae ?_;refine yR ?_;exact ⟨⟨_,rfl⟩,a2,c2,rfl⟩
theorem O2 (str:ah) (a:Option Addr) (c:Nat) (h0:str≠[]) (hb:str.length<=140737488355328) :
  GF Tryz.prog 230 [.loc 0 0] [.box 227 [.loc 0 0,.v (.slice a str.length c)],.vech 5 1 (cr str) (.slice a str.length c)] (.v (sv str)) [.box 227 [.loc 0 0,.v (.slice a str.length c)],.lost]:=by
 have hlen:(cr str).length=str.length:=by simp [cr]
 have hp:Nat.blt 0 str.length=true:=by simpa using List.length_pos_iff.2 h0
 have bP:str.isEmpty=false:=by cases str with | nil=>exact absurd rfl h0 | cons _ _=>rfl
 refine ai Tryz.func230 Tryz.ntmps230 ?_;refine aI (aB 0 10 (.a 10 (.q 11 .nil))) ?_;refine ar ?_;refine Ll ?_;refine ar ?_;exact av
end Go.Xg
namespace Go.Xg
open Go.RowKit Go.Xw Go.Proofs
open Go.Xp (bC)
theorem mi.pB {P:Program} {f:FuncId} {vs:List Value} {w:World} {R:Value->World->Prop} (h:Calls P f vs.toArray w fun e w'=>∃ v,e=.returned v/\R v w'):mi P f vs w R:=h
theorem GW.builder {Q:dD} {fr:List GV} {r1 r2:Nat} {rest:Code} {t8 t56 t57 t5:Tmp} {T1 T2 T3 T4 T5:TypeId} {p1 p2 p3:String} {a1 a2 a3:Array Edge} (n:Nat)
  (h8:jC fr t8=true) (XH:jC fr t56=true) (bP:Nat.beq t8 t56=false) (Zl:Nat.beq t5 t8=false) (hn:cH fr t5=.v (ii (n:Nat))) (hb:n<=281474976710656)
  (h:∀ a c,GW Tryz.prog 0 rest Q (bs (bs (bs fr t8 (.loc 0 0)) t56 (.v (ii (n:Nat)))) t57 (.v (.tuple #[]))) [.box 227 [.loc 0 0,.v (.slice a 0 c)],.vech 5 1 [] (.slice a 0 c)]) :
  GW Tryz.prog 0 (.seq (.region r1 [(⟨some t8,.alloc 227,T1,p1,a1,none⟩:Oper)].toArray false) (.seq (.region r2 [(⟨some t56,.move (.tmp t5),T2,p2,a2,none⟩:Oper),⟨some t57,.call ⟨.value (.func 228),[Operand.tmp t8,.tmp t56].toArray,#[T3,T4]⟩,T5,p3,a3,none⟩].toArray false) rest)) Q fr []:=fun B K β w l hm hI hF=>by
 have Fp:t8≠t56:=by intro e;subst e;simp at bP
 have Rq:t5≠t8:=by intro e;subst e;simp at Zl
 have i8:=mA hF h8;have i56:=mA hF XH;refine W.seq (W.region (WL.alloc (t:=227) fun b w1 r9=>WL.nil ?_));refine W.seq (W.region (WL.v R.mv (WL.call (f:=228) (BP:=[.pointer (some ⟨b,0,none⟩),.int .i64 n]) ?_ (R:=fun x w2=>x=.tuple #[]/\(Lib.BuilderAt 227 5 b b (.pointer (some ⟨b,0,none⟩)) [] w2/\Below b w1 w2)) ?_ fun x w2 hx=>WL.nil ?_)))
 ·have hF1:FR K (fa β 0 (.fix b)) (bs fr t8 (.loc 0 0)) (put l (some t8) (.pointer (some ⟨b,0,none⟩))) :=
   (hF.mono (cm.refl K) (gO (i:=0) (x:=.fix b) (by rw [hI.out 0 (Nat.le_refl _)];trivial))).eU t8 (.loc 0 0 b bo)
  have j56:jC (eU l t8 (.pointer (some ⟨b,0,none⟩))) t56=true:=mA hF1 (t:=t56) (by rw [IJ];exact XH)
  have e5:nth (eU l t8 (.pointer (some ⟨b,0,none⟩))) t5=.int .i64 n:=by
   rw [nY Rq];exact Rel.eD (by rw [<-hn];exact hF.nth t5)
  show [nth (eU (eU l t8 (.pointer (some ⟨b,0,none⟩))) t56 (nth (eU l t8 (.pointer (some ⟨b,0,none⟩))) t5)) t8,nth (eU (eU l t8 (.pointer (some ⟨b,0,none⟩))) t56 (nth (eU l t8 (.pointer (some ⟨b,0,none⟩))) t5)) t56]=_;rw [nY Fp,sA i8,sA j56,e5]
 ·refine mi.pB (Calls.mono (Tryz.Builder_Grow_fresh b b n w1 (Nat.le_refl _) r9.blk (by have:=r9.size;omega) hb) ?_);rintro e w' ⟨h1,h2⟩;exact ⟨_,h1,rfl,h2⟩
 ·obtain ⟨rfl,⟨_,v,lg,fc,vd⟩,Fb⟩:=hx;have fc:gB w2 b 5 1 v 0 []:=fc;obtain ⟨a,c,rfl⟩:=fc.shape;have tV:=r9.fresh;have gJ:Ext gq w w2:=⟨Fb.os.trans r9.ext.os,Fb.tape.trans r9.ext.tape,Fb.output.trans r9.ext.output,Nat.le_trans r9.ext.size Fb.size,fun k hk hs=>(Fb.block k ag).trans (r9.ext.block k hk hs)⟩;have pj:=hI.same gJ
  have b9:∀ i,β i=.no:=fun i=>hI.out i (Nat.zero_le _)
  have Uv:∀ o,K b o=none:=fun o=>by
   cases hk:K b o with
   | none=>rfl
   | some g=>have:=hI.fz.lt hk;omega
  have X8:=hI.ext.size;have aap:=hI.tab.pow.lt;have mU:=hI.tab.spc.lt;have UP:cZ β (fa β ([]:List Ob).length (.fix b)):=gO (by rw [b9];trivial)
  have Uu:=pj.QV (x:=.fix b) (y:=.box 227 [.loc 0 0,.v (.slice a 0 c)]) (fun b' bq=>by
   cases bq
   exact ⟨fun i hi=>(by rw [b9] at hi;cases hi),by omega,by omega,by omega⟩) (by
   refine ⟨b,[.pointer (some ⟨b,0,none⟩),.slice a 0 c],bo,lg,.cons (.loc 0 0 b bo) (.cons (.v _) .nil),Uv⟩) UP
  have A7:gB w2 0 5 1 (.slice a 0 c) 0 []:=fc.base (Nat.zero_le _)
  have Rc:∀ g,(Value.slice a 0 c).ownBlock=some g->b < g:=fun g hg=>by
   have h1:=(fc.lt hg).1
   have h2:g≠b:=fun e=>vd (by rw [hg,e])
   omega
  have zf:fa β ([]:List Ob).length (.fix b) 1=.no:=by rw [bE aJ];exact b9 1
  have zY:cZ (fa β ([]:List Ob).length (.fix b)) (fa (fa β ([]:List Ob).length (.fix b)) 1 (.gr (.slice a 0 c) 0)):=gO (by rw [zf];trivial)
  have hI4:=Uu.QV (x:=.gr (.slice a 0 c) 0) (y:=.vech 5 1 [] (.slice a 0 c)) (fun g hg=>by
   have:=Rc g hg;refine ⟨fun i hi=>?_,by omega,by omega,by omega⟩
   rcases lT hi with h1 | h1
   ·cases h1;omega
   ·rw [b9] at h1;cases h1) (by
   refine ⟨[],bo,A7,ba.nil,(fun r hr=>by cases hr),fun g hg o=>?_⟩
   cases hk:K g o with
   | none=>rfl
   | some y=>have:=hI.fz.lt hk;have:=Rc g hg;omega) zY
  refine h a c B K _ w2 _ hm hI4 ?_;have hF2:=(hF.mono (cm.refl K) UP).mono (cm.refl K) zY;refine ((hF2.eU t8 (.loc 0 0 b ?_)).eU t56 ?_).eU t57 (.v _)
  ·rw [bE aJ];exact bo
  ·have e5:nth (eU l t8 (.pointer (some ⟨b,0,none⟩))) t5=.int .i64 n:=by
    rw [nY Rq];exact Rel.eD (by rw [<-hn];exact hF.nth t5)
   rw [show ev (put l (some t8) (.pointer (some ⟨b,0,none⟩))) (.tmp t5)=.int .i64 n from e5];exact .v _
attribute [local irreducible] GW GL GO YG GC GA aV aZ
theorem tP (a b:ah):cr (a++b)=cr a++cr b:=by simp [cr]
def mZ (l:List ah):Nat:=(l.map List.length).sum
theorem Dn:∀ (r:List ah) (x:ah),(bC (x::r)).length=mZ (x::r)+2 * r.length
 | [],x=>by simp [bC,mZ]
 | y::r,x=>by
  have:=Dn r y;simp only [bC,mZ,length_append,List.map_cons,sum_cons,List.flatMap_cons,length_cons] at this |-;omega
def gj (l:List ah):ah:=l.flatMap fun y=>44::32::y
theorem MI (a b:List ah):gj (a++b)=gj a++gj b:=by unfold gj;rw [List.flatMap_append]
theorem SH (l:List ah) (k:Nat):(gj (l.take k)).length<=(gj l).length:=by
 have:gj l=gj (l.take k)++gj (l.drop k):=by rw [<-MI,List.take_append_drop]
 rw [this,length_append];omega
theorem Um (y:ah):gj [y]=[44,32]++y:=by simp [gj]
theorem PK (x:ah) (r:List ah):bC (x::r)=x++gj r:=rfl
theorem LB (l:List ah) (hb:(bC l).length<=1099511627776) (hl:l.length<=1099511627776):GF Tryz.prog 196 [strs l,.v (sv [44,32])] [] (.v (sv (bC l))) []:=by
 match l,hb,hl with
 | [],hb,hl =>
  refine ai Tryz.func196 Tryz.ntmps196 ?_;exact al
 | [x],hb,hl =>
  have hr:([x].map fun s=>[GV.v (sv s)])[0]?=some [.v (sv x)]:=rfl
  have e:bC [x]=x:=by simp [bC]
  rw [e];refine ai Tryz.func196 Tryz.ntmps196 ?_;exact al
 | x::y::r,hb,hl =>
  have oI:((x::y::r).map fun s=>[GV.v (sv s)])[0]?=some [.v (sv x)]:=rfl;have hlen:=Dn (y::r) x
  have zq:x.length<=1099511627776:=by simp only [bC,length_append] at hb;omega
  generalize hL:(x::y::r)=l at *
  have jB:2<=l.length:=by rw [<-hL];simp
  have dK:(l.map fun s=>[GV.v (sv s)]).length=l.length:=by simp
  have zf:Nat.blt 1 (l.map fun s=>[GV.v (sv s)]).length=true:=by rw [dK];simpa [Nat.blt] using jB
  have De:(((l.map fun s=>[GV.v (sv s)]).length:Int)==0)=false:=by rw [dK];simp only [beq_eq_false_iff_ne,ne_eq];omega
  have Fo:(((l.map fun s=>[GV.v (sv s)]).length:Int)==1)=false:=by rw [dK];simp only [beq_eq_false_iff_ne,ne_eq];omega
  have hq:decide ((9223372036854775807:Int) / (((l.map fun s=>[GV.v (sv s)]).length:Int) - 1)<=2)=false:=by
   rw [dK]
   have h3:(3:Int)<=9223372036854775807 / ((l.length:Int) - 1):=by
    rw [Int.le_ediv_iff_mul_le ag];omega
   simp;omega
  refine ai Tryz.func196 Tryz.ntmps196 ?_;apply GL.q
  ·exact YG.mul (a:=2) (b:=((l.map fun s=>[GV.v (sv s)]).length:Int) - 1) rfl rfl ag
  refine ct ?_;refine ae ?_;refine GW.range (l.map fun s=>[GV.v (sv s)]).length (fun k fr Γ=>fr=[strs l,.v (sv [44,32]),.U,.U,.U,.v (ii (0+2 * (((l.map fun s=>[GV.v (sv s)]).length:Int) - 1)+((mZ (l.take k):Nat):Int))),.U,.U,.U,.U,.U,.U,.U,.U,.U,.U,.U,.U,.U,.U,.U,.U,.U,.U,.U,.U,.U,.U,.U,.U,.U,.U,.U,.U,.U,.U,.U,.U,.U,strs l,.v (ii ((l.map fun s=>[GV.v (sv s)]).length:Int)),.v (ii (k:Nat)),.U,.U,.U,.U,.U,.U,.U,.U,.U,.U,.U,.U,.U,.U,.U,.U,.U,.U,.U,.U,.U,.U,.U,.U,.U,.U,.U,.U,.U,.U,.U,.U,.U]/\Γ=[]) ?_ ag ?_ ?_ ?_
  ·refine ⟨_,_,Wk.aC (b8:=[strs l,.v (sv [44,32]),.U,.U,.U,.v (ii (0+2 * (((l.map fun s=>[GV.v (sv s)]).length:Int) - 1))),.U,.U,.U,.U,.U,.U,.U,.U,.U,.U,.U,.U,.U,.U,.U,.U,.U,.U,.U,.U,.U,.U,.U,.U,.U,.U,.U,.U,.U,.U,.U,.U,.U,strs l,.v (ii ((l.map fun s=>[GV.v (sv s)]).length:Int)),.v (ii (0:Nat)),.U,.U,.U,.U,.U,.U,.U,.U,.U,.U,.U,.U,.U,.U,.U,.U,.U,.U,.U,.U,.U,.U,.U,.U,.U,.U,.U,.U,.U,.U,.U,.U,.U]) aq,?_,rfl⟩;rw [List.take_zero,show ((mZ []:Nat):Int)=0 from rfl,Int.add_zero]
  ·rintro k _ _ ⟨rfl,rfl⟩;exact dQ
  ·rintro k _ _ ak ⟨rfl,rfl⟩;rw [dK] at ak
   have cJ:l[k]?=some l[k]:=by simp [ak]
   have sY:(l.map fun s=>[GV.v (sv s)])[k]?=some [.v (sv l[k])]:=by rw [getElem?_map,cJ];rfl
   have hs:mZ (l.take (k+1))=mZ (l.take k)+l[k].length:=by unfold mZ;rw [take_add_one,cJ,map_append,List.sum_append];simp only [Option.toList,List.map_cons,map_nil,sum_cons,List.sum_nil,Nat.add_zero]
   have hle:mZ (l.take (k+1))<=mZ l:=by
    have:mZ l=mZ (l.take (k+1))+mZ (l.drop (k+1)):=by
     unfold mZ;rw [<-List.sum_append,<-map_append,List.take_append_drop]
    omega
   generalize l[k]=z at *;rw [show (0+2 * (((l.map fun s=>[GV.v (sv s)]).length:Int) - 1)+((mZ (l.take (k+1)):Nat):Int))=0+2 * (((l.map fun s=>[GV.v (sv s)]).length:Int) - 1)+((mZ (l.take k):Nat):Int)+(z.length:Int) by rw [hs];omega]
   have hov:decide (9223372036854775807 - (0+2 * (((l.map fun s=>[GV.v (sv s)]).length:Int) - 1)+((mZ (l.take k):Nat):Int)) < (z.length:Int))=false:=by
    simp only [decide_eq_false_iff_not];omega
   refine ae ?_;exact ⟨rfl,rfl,_,_,Wk.aC aq,rfl,rfl⟩
  ·rintro _ _ ⟨rfl,rfl⟩;rw [dK,take_length]
   have hN:(0+2 * ((l.length:Int) - 1)+((mZ l:Nat):Int))=(((bC l).length:Nat):Int):=by
    have:(y::r).length+1=l.length:=by rw [<-hL];simp
    omega
   rw [hN];refine bb ?_
   refine GW.builder (bC l).length rfl rfl rfl rfl rfl ag fun a c=>?_
   refine ae ?_;refine cn [0,1] (rT x 0 a c [] rfl ag) ?_;rintro _ _ ⟨⟨u1,rfl⟩,a1,c1,rfl⟩;refine cX ?_;refine ae ?_
   have key:∀ k,(x++gj ((y::r).take k)).length<=1099511627776:=fun k=>by
    have h1:=SH (y::r) k;rw [<-hL,PK,length_append] at hb;rw [length_append];omega
   refine GW.range ((y::r).map fun s=>[GV.v (sv s)]).length (fun k fr Γ=>∃ acc a c,fr=[.U,.v (sv [44,32]),.U,.U,.U,.U,.U,.U,.loc 0 0,.U,.U,.U,.U,.U,.U,.U,.U,.U,.U,.U,.U,.U,.U,.U,.U,.U,.U,.U,.U,.U,.U,.U,.U,.U,.U,.U,.U,.U,.U,.U,.U,.U,.U,.U,.U,.U,.U,.U,.U,.U,.U,.U,.U,.U,.U,.U,.U,.U,.U,.U,.U,.U,.U,strs (y::r),.v (ii (((y::r).map fun s=>[GV.v (sv s)]).length:Int)),.v (ii (k:Nat)),.U,.U,.U,.U,.U,.U,.U,.U,.U]/\acc=x++gj ((y::r).take k)/\Γ=[.box 227 [.loc 0 0,.v (.slice a acc.length c)],.vech 5 1 (cr acc) (.slice a acc.length c)]) ?_ ?_ ?_ ?_ ?_
   ·rw [show 0+x.length=x.length from Nat.zero_add _];subst hL;exact ⟨_,_,Wk.aC aq,x,a1,c1,rfl,by simp [gj],rfl⟩
   ·have:((y::r).map fun s=>[GV.v (sv s)]).length+1=l.length:=by rw [<-hL];simp
    omega
   ·rintro k _ _ ⟨acc,a,c,rfl,_,rfl⟩;exact dQ
   ·rintro k _ _ ak ⟨acc,a,c,rfl,kV,rfl⟩
    have ak:k < (y::r).length:=by simpa using ak
    have cJ:(y::r)[k]?=some (y::r)[k]:=by simp [ak]
    have sY:((y::r).map fun s=>[GV.v (sv s)])[k]?=some [.v (sv (y::r)[k])]:=by rw [getElem?_map,cJ];rfl
    have bu:x++gj ((y::r).take (k+1))=(acc++[44,32])++(y::r)[k]:=by
     rw [take_add_one,cJ,MI,<-List.append_assoc,<-kV,List.append_assoc]
     congr 1
     exact Um _
    have r8:=key k;have oh:=key (k+1);rw [bu] at oh;rw [<-kV] at r8;simp only [length_append,length_cons,length_nil] at oh;generalize (y::r)[k]=z at *
    have WI:(cr acc).length=acc.length:=by simp [cr]
    refine ae ?_;refine cn [0,1] (rT [44,32] acc.length a c (cr acc) WI (by simp only [length_cons,length_nil];omega)) ?_;rintro _ _ ⟨⟨u1,rfl⟩,a2,c2,rfl⟩;refine cX ?_;rw [show cr acc++[[GV.v (.int .u8 ((44:UInt8).toNat:Int))],[GV.v (.int .u8 ((32:UInt8).toNat:Int))]]=cr (acc++[44,32]) by simp [cr],show acc.length+([44,32]:ah).length=(acc++[44,32]).length by simp];refine ae ?_;refine cn [0,1] (rT z (acc++[44,32]).length a2 c2 (cr (acc++[44,32])) (by simp [cr]) (by simp only [length_append,length_cons,length_nil];omega)) ?_;rintro _ _ ⟨⟨u2,rfl⟩,a3,c3,rfl⟩;refine cX ?_
    have ez:List.length (acc++[44,32])+List.length z=List.length ((acc++[44,32])++z):=by simp only [length_append]
    rw [<-tP,ez];refine ae ?_;exact ⟨rfl,rfl,_,_,Wk.aC aq,(acc++[44,32])++z,a3,c3,rfl,bu.symm,rfl⟩
   ·rintro _ _ ⟨acc,a,c,rfl,kV,rfl⟩
    have hj:bC l=acc:=by
     rw [kV,<-hL,show ((y::r).map fun s=>[GV.v (sv s)]).length=(y::r).length by simp,take_length];rfl
    rw [hj] at hb hlen |-
    have bP:acc≠[]:=by
     intro h0;rw [h0] at hlen;simp at hlen
    have Zx:=O2 acc a c bP ag;refine ae ?_;refine ab [0,1] Zx ?_;exact al
end Go.Xg
set_option maxHeartbeats 4000000
namespace Go.Xg
open Go.RowKit Go.Xw Go.Proofs
open Go.Im
section
variable {P:Program} {m:Nat} {fr:List GV} {Γ:List Ob}
theorem Wk.keep {n j E k:Nat} {rows:List (List GV)} {x:Value} (hm:m<=n) (hnj:n<=j) (hl:zz n (Γ.take n)=true) (hlen:(Γ.take n).length=n) (bz:Γ[j]?=some (.vech E k rows x)) :
  Wk m fr Γ (TX n fr) (Γ.take n++[.vech E k rows x]):=fun B K β w l hB hI hF=>by
 have h:=hI.cut (n:=n) ag hl;obtain ⟨xs,o1,o2,o3,o4,o5⟩:=hI.ob j _ bz
 have Rh:∀ b,(Bk.gr x rows.length).blk=some b->(β j).blk=some b:=fun b hb=>by rw [o1];exact hb
 have Pv:fj (below n) β n=.no:=sB (yk (Nat.le_refl n));have hold:cZ (fj (below n) β) (fa (fj (below n) β) n (.gr x rows.length)):=gO (by rw [Pv];trivial)
 have b9:∀ b,(β j).blk=some b->∀ i,(fj (below n) β i).blk≠some b:=fun b hb i hi=>by
  by_cases fP:i < n
  ·rw [iv (yl fP)] at hi;have:=hI.dis i j b hi hb;omega
  ·rw [sB (yk ag)] at hi;cases hi
 refine ⟨K,fa (fj (below n) β) n (.gr x rows.length),?_,(hF.res).mono (cm.refl K) hold⟩;refine ⟨h.ext,h.kle,h.ble.trans hold,h.loc,h.fz,fun i z hi=>?_,fun i hi=>?_,fun i i' b hi hj=>?_,fun i b hi=>?_,h.kn,⟨h.tab.le,h.tab.pow,h.tab.spc,fun i b hi=>?_⟩⟩
 ·by_cases r7:i < n
  ·rw [getElem?_append_left ag] at hi;exact (h.ob i z hi).ext (S:=gq) (Ext.refl w) (fun _ _ h=>h) (cm.refl K) hold (bE ag) (fun _ _ _ h=>h)
  ·have:i=n:=by have:=(List.getElem?_eq_some_iff.1 hi).1;rw [length_append,hlen,List.length_singleton] at this;omega
   subst this;rw [List.getElem?_append_right ag,hlen,Nat.sub_self] at hi;cases hi;refine ⟨xs,bo,o2,⟨o3.1,fun a v g h1 h2=>(o3.2 a v g h1 h2).pc ?_⟩,o4,o5⟩;obtain ⟨r,fY,dh⟩:=List.mem_flatten.1 (mem_of_getElem? h2);exact (o4 r fY).2 g dh
 ·rw [length_append,hlen,List.length_singleton] at hi;rw [bE ag];exact sB (yk ag)
 ·by_cases h1:i=n <;> by_cases h2:i'=n
  ·omega
  ·subst h1;rw [bo] at hi;rw [bE h2] at hj;exact absurd hj (b9 b (Rh b hi) i')
  ·subst h2;rw [bo] at hj;rw [bE h1] at hi;exact absurd hi (b9 b (Rh b hj) i)
  ·rw [bE h1] at hi;rw [bE h2] at hj;exact h.dis i i' b hi hj
 ·rcases lT hi with h1 | h1
  ·exact hI.own j b (Rh b h1)
  ·exact h.own i b h1
 ·rcases lT hi with h1 | h1
  ·exact hI.tab.free j b (Rh b h1)
  ·exact h.tab.free i b h1
end
theorem Inv.renew {B:Bs} {K:Fz} {β:Bt} {Γ:List Ob} {w w':World} {i E k:Nat} {rows rows':List (List GV)} {x:Value} {xs:List Value} (h:Inv B K β Γ w) (hi:Γ[i]?=some (.vech E k rows x)) (hl:rows'.length=rows.length)
  (ho:gB w' 0 E k x rows'.length xs) (hr:ba K β xs rows'.flatten) (eG:fA k rows') (hx:Ext (fun b=>x.ownBlock=some b) w w'):Inv B K β (oset Γ i (.vech E k rows' x)) w':=by
 obtain ⟨xs0,h1,h2,h3,h4,h5⟩:=h.ob i _ hi
 have en:∀ b,x.ownBlock=some b->(β i).blk=some b:=fun b hb=>by rw [h1];exact hb
 rw [bd];refine ⟨h.ext.step hx (fun j hj=>(h.own i j (en j hj)).symm),h.kle,h.ble,h.loc,h.fz.ext hx (fun b o g hg he=>by rw [h5 b he o] at hg;cases hg),fun j y hj=>?_,fun j hj=>h.out j (by simpa using hj),h.dis,h.own,h.kn,h.tab.step hx (fun j hj=>⟨i,en j hj⟩) (cm.refl K) (fun i b2 h=>.inl ⟨i,h⟩)⟩;rw [List.getElem?_set] at hj;split at hj
 ·rename_i eR;split at hj
  ·cases hj;subst eR
   exact ⟨xs,by rw [hl];exact h1,ho,hr,eG,h5⟩
  ·cases hj
 ·rename_i eR;exact (h.ob j y hj).ext hx (fun b hb he=>eR (h.dis i j b (en b he) hb)) (cm.refl K) (cZ.refl β) rfl (fun _ _ _ h=>h)
theorem Dl (l:List Int):(bc l).flatten=l.map fun i=>GV.v (ii i):=by
 unfold bc
 induction l with
 | nil=>rfl
 | cons a l ih=>rw [List.map_cons,flatten_cons,ih];rfl
theorem eP (l:List Int):(bc l).length=l.length:=by simp [bc]
theorem IK (l:List Int):fA 1 (bc l):=fun r hr=>by
 obtain ⟨i,_,rfl⟩:=List.mem_map.1 hr;exact ⟨rfl,fun g hg=>by rw [List.mem_singleton.1 hg];rfl⟩
theorem DJ {K:Fz} {β:Bt} (l:List Int):ba K β (l.map (Value.int .i64)) ((bc l).flatten):=by
 rw [Dl];refine ⟨by simp,fun i v g h1 h2=>?_⟩;rw [getElem?_map] at h1 h2
 cases hl:l[i]? with
 | none=>rw [hl] at h1;cases h1
 | some z=>rw [hl] at h1 h2;cases h1;cases h2;exact .v _
theorem xa {K:Fz} {β:Bt} {xs:List Value} {l:List Int} (h:ba K β xs ((bc l).flatten)):xs=l.map (Value.int .i64):=by
 rw [Dl] at h;apply List.ext_getElem?;intro i;rw [getElem?_map]
 cases hl:l[i]? with
 | none =>
  have:=h.1;rw [length_map] at this;have h2:=List.getElem?_eq_none_iff.1 hl;rw [getElem?_eq_none ag];rfl
 | some z =>
  obtain ⟨v,hv,hr⟩:=h.at (i:=i) (g:=.v (ii z)) (by rw [getElem?_map,hl];rfl);rw [hv,Rel.eD hr];rfl
theorem Ii {w:World} {g q:Nat} {d:Array Int} {os:Array Obj}:Ext (fun b=>b=g) w (Go.Sort.grow (Go.Sort.putRow (Value.int .i64) (Go.Sort.ahead w q) g 0 d) os):=by
 refine ⟨rfl,rfl,rfl,by simp [Go.Sort.grow,Go.Sort.putRow,Go.Sort.mapBlock,Go.Sort.ahead],fun k hk hn=>?_⟩;simp only [Go.Sort.grow,Go.Sort.putRow,Go.Sort.mapBlock,Go.Sort.ahead];rw [Array.getElem?_append_left (by simpa using hk),Array.getElem?_modify,if_neg ag]
theorem RQ {K:Fz} {β:Bt} {vs:List Value} {x:Value} (h:ba K β vs [.v x]):vs=[x]:=by
 match vs,h.1 with
 | [v],_=>rw [Rel.eD h.nN.1]
theorem LI (zs:List Int) (E:TypeId) (a:Option Addr) (c:Nat) (hz:zs.length<=1099511627776) :
  GF Tryz.prog 105 [.v (.slice a zs.length c)] [.vech E 1 (bc zs) (.slice a zs.length c)] (.tup []) [.vech E 1 (bc (gx zs)) (.slice a zs.length c)]:=fun B K β w vs hm hI hF=>by
 obtain rfl:=RQ hF;obtain ⟨xs,h1,h2,h3,h4,h5⟩:=hI.ob 0 _ rfl;have px:=xa h3;subst px;rw [eP] at h2
 by_cases hn:(Value.slice a zs.length c)=.slice none 0 0
 ·injection hn with e1 e2 e3
  have FF:zs=[]:=List.eq_nil_of_length_eq_zero e2;subst FF;subst e1;refine mi.pB (Calls.mono (Tryz.slices_Sort_int_none none c w) ?_);rintro e w' ⟨he,rfl⟩;exact ⟨_,he,K,β,.tup [],_,hI,.tup [] [] rfl (fun i v g h=>by simp at h),rfl,by rw [show gx []=[] by simp [gx]]⟩
 ·obtain ⟨g,cap,hv,nC,XT,oH,wW,hzl,hH⟩:=Go.Lib.holds_of_ownsRow h2 hn
  injection hv with e1 e2 e3
  subst e1;subst e3;refine mi.pB (Calls.mono (Tryz.slices_Sort_int g 0 c zs w hH XT ag) ?_);rintro e w' ⟨he,n,os,rfl⟩;have fc:=Go.Lib.ownsRow_putRow (q:=n) (k:=zs.length) (ys:=gx zs) h2 (nI zs) (Nat.le_refl _);rw [take_of_length_le (by rw [nI];exact Nat.le_refl _)] at fc;have Ka:=Go.Lib.ownsRow_grow fc 0 os;refine ⟨_,he,K,β,.tup [],_,hI.renew (i:=0) rfl (rows':=bc (gx zs)) (xs:=(gx zs).map (Value.int .i64)) (by rw [eP,eP,nI]) ?_ (DJ _) (IK _) ?_,.tup [] [] rfl (fun i v g h=>by simp at h),rfl,rfl⟩
  ·rw [eP,nI];exact Ka
  ·exact (Ii (w:=w) (g:=g) (q:=n) (d:=(gx zs).toArray) (os:=os)).mono fun b _ hb=>by rw [hb];rfl
theorem Qv {K:Fz} {β:Bt} {g n c k:Nat} {rows:List (List GV)} (h:Rel K β (.slice (some ⟨g,0,none⟩) n c) (.sl k rows)) (bP:rows≠[]) :
  ∀ (i:Nat) r,rows[i]?=some r->r.length=k/\∀ (j:Nat) gg,r[j]?=some gg->K g (0+i * k+j)=some gg:=by
 generalize hv:Value.slice (some ⟨g,0,none⟩) n c=v at h
 cases h with
 | sl0 a c k=>exact absurd rfl bP
 | sl b o c k rows h hc =>
  injection hv with e1 e2 e3
  injection e1 with e1
  injection e1 with e1 e4
  subst e1;subst e4;exact h
theorem Ls (zs:List Int) (E:TypeId) (a:Option Addr) (c:Nat) (hz:zs.length<=1099511627776) (zh:(Go.Lib.compact zs).length<=zs.length) :
  GC Tryz.prog 106 [.v (.slice a zs.length c)] [.vech E 1 (bc zs) (.slice a zs.length c)] fun g Δ=>g=ints (Go.Lib.compact zs)/\∃ fz S,Δ=[.vec E 1 fz S]:=fun B K β w vs hm hI hF=>by
 obtain rfl:=RQ hF;obtain ⟨xs,h1,h2,h3,h4,h5⟩:=hI.ob 0 _ rfl;have px:=xa h3;subst px;rw [eP] at h2
 by_cases FF:zs=[]
 ·subst FF;refine mi.pB (Calls.mono (Tryz.slices_Compact_int_empty a c w) ?_);rintro e w' ⟨he,rfl⟩;exact ⟨_,he,K,β,ints [],_,hI.ye (i:=0) rfl,.sl0 a c 1,rfl,_,_,rfl⟩
 ·have hn:(Value.slice a zs.length c)≠.slice none 0 0:=fun hn=>by
   injection hn with e1 e2 e3
   exact FF (List.eq_nil_of_length_eq_zero e2)
  obtain ⟨g,cap,hv,nC,XT,oH,wW,hzl,hH⟩:=Go.Lib.holds_of_ownsRow h2 hn
  injection hv with e1 e2 e3
  subst e1;subst e3;refine mi.pB (Calls.mono (Tryz.slices_Compact_int g 0 c zs w hH ag oH) ?_);rintro e w' ⟨he,q,rfl⟩;generalize hcz:Go.Lib.compact zs=cz at *;generalize RB:cz++List.replicate (zs.length - cz.length) (0:Int)=ys at *
  have FE:ys.length=zs.length:=by rw [<-RB,length_append,List.length_replicate];omega
  have fc:=Go.Lib.ownsRow_putRow (q:=q) (k:=zs.length) (ys:=ys) h2 FE (Nat.le_refl _);rw [take_of_length_le ag] at fc;have pj:=hI.renew (i:=0) rfl (rows':=bc ys) (xs:=ys.map (Value.int .i64)) (w':=Go.Sort.putRow (Value.int .i64) (Go.Sort.ahead w q) g 0 ys.toArray) (by rw [eP,eP,FE]) (by rw [eP,FE];exact fc) (DJ _) (IK _)
   (by
    have:=(Ii (w:=w) (g:=g) (q:=q) (d:=ys.toArray) (os:=#[]));rw [Go.Sort.grow_empty] at this
    exact this.mono fun b _ hb=>by rw [hb];rfl)
  obtain ⟨K',hK,hr,Uu⟩:=pj.qb (i:=0) rfl;refine ⟨_,he,K',β,ints cz,_,Uu,?_,rfl,_,_,rfl⟩
  have jB:zs.length=(bc ys).length:=by rw [eP,FE]
  rw [jB] at hr;have Fc:=Qv hr (fun e=>FF (List.eq_nil_of_length_eq_zero (by rw [jB,e];rfl)))
  have UD:cz.length=(cz.map fun i=>[GV.v (ii i)]).length:=by simp
  rw [UD];refine .sl g 0 c 1 _ (fun i r h=>?_) (by rw [<-UD];omega);refine Fc i r ?_;have hi:=(List.getElem?_eq_some_iff.1 h).1;rw [length_map] at hi;rw [<-RB];unfold bc;rw [map_append,getElem?_append_left (by rw [length_map];exact hi)];exact h
end Go.Xg
namespace Go.Im
open Go.Xp Go.Sp
end Go.Im
namespace Go.Xg
open Go.RowKit Go.Xw Go.Proofs
open Go.Xp (Nd T Ar aP az bL)
open Go.Sp (Src)
open Go.Im
attribute [local irreducible] GW GL GO YG GC GA aV aZ
end Go.Xg
set_option maxHeartbeats 1000000
namespace Go.Xg
open Go.RowKit Go.Xw Go.Proofs
open Go.Xp (Tok Nd T bh one levels Ar)
open Go.Sp
attribute [local irreducible] GW GL GO YG GC GA aV aZ
theorem Wt (p:Src) (hp:p.nodes.length<=1000000000000) (hk:∀ n∈p.nodes,n.kids.length<=1000000000000):∀ (f a d:Nat) (e:Int),d<=801->ot p.nodes f a d=some e->GF Tryz.prog 188 [.agg (ax p),.v (ii (a:Nat)),.v (ii (d:Nat))] [] (.v (ii e)) []:=by
 intro f
 induction f using Nat.strongRecOn with
 | _ f ih =>
 intro a d e hd h
 cases f with
 | zero=>simp [ot] at h
 | succ f =>
 rw [ot] at h;refine db Tryz.func188 Tryz.ntmps188 ?_
 by_cases h1:p.nodes.length<=a
 ·rw [if_pos (.inl h1)] at h;cases h
  have cI:decide (((p.nodes.map ay).length:Int)<=(a:Int))=true:=by simpa using h1
  exact av
 have cI:decide (((p.nodes.map ay).length:Int)<=(a:Int))=false:=by simpa using h1
 by_cases h2:d > 800
 ·rw [if_pos (.inr h2)] at h;cases h
  have qo:decide ((800:Int) < (d:Int))=true:=by simpa using by omega
  exact av
 have qo:decide ((800:Int) < (d:Int))=false:=by simpa using by omega
 rw [if_neg ag] at h
 cases hn:p.nodes[a]? with
 | none=>rw [hn] at h;cases h
 | some n =>
 rw [hn] at h;simp only at h;have hr:=jU hn;have eS:=hk n (mem_of_getElem? hn);refine ae ?_
 refine GW.range (n.kids.map fun i=>[GV.v (ii i)]).length (fun k fr Γ=>∃ nx g,fr=[.U,.v (ii (a:Nat)),.v (ii (d:Nat)),.loc 0 0,.U,.U,.U,.v (ii nx),.U,.U,.U,.U,.U,.U,.U,.U,.U,.U,.U,.U,.U,.U,.U,.U,.U,.U,ints n.kids,.v (ii ((n.kids.map fun i=>[GV.v (ii i)]).length:Int)),.v (ii (k:Nat)),.U,.U,.U,.U,.U,.U,.U,.U,.U,.U,.U,.U,.U,.U,.U] /\
   Γ=[.box 34 (ax p)]/\0<=nx/\g<=f/\nu p.nodes g (n.kids.drop k) nx d=some e) ?_ (by simp;omega) ?_ ?_ ?_
 ·exact ⟨_,_,Wk.aC aq,_,f,rfl,rfl,by omega,Nat.le_refl _,h⟩
 ·rintro k _ _ ⟨_,_,rfl,rfl,_⟩;exact dQ
 ·rintro k _ _ ak ⟨nx,g,rfl,rfl,pS,hg,h⟩
  have ak:k < n.kids.length:=by simpa using ak
  have hx:n.kids[k]?=some n.kids[k]:=by simp [ak]
  rw [drop_eq_getElem_cons ak] at h;generalize n.kids[k]=x at *;have rD:=pC hx
  cases g with
  | zero=>simp [nu] at h
  | succ g =>
  rw [nu] at h
  by_cases hxn:x=nx
  ·subst hxn;rw [if_pos rfl] at h
   have hb:(x != x)=false:=by simp
   cases cq:ot p.nodes g x.toNat (d+1) with
   | none=>rw [cq] at h;cases h
   | some y =>
   rw [cq] at h;simp only at h;have yD:=ih g ag x.toNat (d+1) y ag cq;rw [Int.toNat_of_nonneg pS] at yD
   by_cases hy:y < 0
   ·rw [if_pos hy] at h;cases h
    have Vd:decide (y < (0:Int))=true:=by simpa using hy
    refine ae ?_;refine ab [] yD ?_;exact al
   ·rw [if_neg hy] at h
    have Vd:decide (y < (0:Int))=false:=by simpa using hy
    refine ae ?_;refine ab [] yD ?_;exact ⟨rfl,rfl,_,_,Wk.aC aq,_,g,rfl,rfl,by omega,by omega,h⟩
  ·rw [if_neg hxn] at h;cases h
   have hb:(x != nx)=true:=by simpa using hxn
   exact av
 ·rintro _ _ ⟨nx,g,rfl,rfl,pS,hg,h⟩;rw [length_map,List.drop_length] at h
  have kV:nx=e:=by cases g <;> (rw [nu] at h;cases h;rfl)
  subst kV;exact av
theorem Xb (a n:Int) (s:ah) (ks:List Int) (l:List T) (hs:s.length<=1099511627776) (hl:l.length<=1099511627776) (ha:decide (a < 0)=false):GF Tryz.prog 217 [.agg (cT (.mk ⟨1,a,n,s,ks⟩ l))] [] (.v (.bool (bN (.mk ⟨1,a,n,s,ks⟩ l)))) []:=by
 have how:bN (.mk ⟨1,a,n,s,ks⟩ l)=(decide ((0:Int)<=n)&&(decide (n<=2147483647)&&((s==[])&&((l.length:Int)==0)))):=by unfold bN own;rw [if_neg (by show ¬ (decide (a < 0)=true);rw [ha];decide)];rfl
 rw [how];refine db Tryz.func217 Tryz.ntmps217 ?_
 cases h0:decide ((0:Int)<=n) with
 | false =>
  exact av
 | true =>
  cases h1:decide (n<=2147483647) with
  | false =>
   exact av
  | true =>
   cases h2:(s==[]) with
   | false =>
    exact av
   | true =>
    refine ae ?_;refine bR ?_;exact ⟨by first | rfl | (rw [aU];rfl),rfl⟩
theorem Xc (a:Int) (s:ah) (ks:List Int) (l:List T) (hs:s.length<=1099511627776) (hl:l.length<=1099511627776) (ha:decide (a < 0)=false):GF Tryz.prog 217 [.agg (cT (.mk ⟨2,a,0,s,ks⟩ l))] [] (.v (.bool (bN (.mk ⟨2,a,0,s,ks⟩ l)))) []:=by
 have how:bN (.mk ⟨2,a,0,s,ks⟩ l)=(bp s&&((l.length:Int)==0)):=by unfold bN own;rw [if_neg (by show ¬ (decide (a < 0)=true);rw [ha];decide)];rfl
 rw [how];refine db Tryz.func217 Tryz.ntmps217 ?_
 cases h0:bp s with
 | false =>
  refine ae ?_;have hc:=dZ s hs;rw [h0] at hc;refine ab [] hc ?_;exact al
 | true =>
  refine ae ?_;have hc:=dZ s hs;rw [h0] at hc;refine ab [] hc ?_;refine bR ?_;exact ⟨by first | rfl | (rw [aU];rfl),rfl⟩
theorem Xd (a:Int) (s:ah) (ks:List Int) (l:List T) (hs:s.length<=1099511627776) (hl:l.length<=1099511627776) (ha:decide (a < 0)=false):GF Tryz.prog 217 [.agg (cT (.mk ⟨3,a,0,s,ks⟩ l))] [] (.v (.bool (bN (.mk ⟨3,a,0,s,ks⟩ l)))) []:=by
 have how:bN (.mk ⟨3,a,0,s,ks⟩ l)=(bp s&&(((l.length:Int)==1)&&bj 1 0 l)):=by unfold bN own;rw [if_neg (by show ¬ (decide (a < 0)=true);rw [ha];decide)];rfl
 rw [how];refine db Tryz.func217 Tryz.ntmps217 ?_
 cases h0:bp s with
 | false =>
  refine ae ?_;have hc:=dZ s hs;rw [h0] at hc;refine ab [] hc ?_;exact al
 | true =>
  cases h1:((l.length:Int)==1) with
  | false =>
   have cI:((((aS l).length:Int)==1))=false:=by rw [<-aU l] at h1;exact h1
   refine ae ?_;have hc:=dZ s hs;rw [h0] at hc;refine ab [] hc ?_;exact al
  | true =>
   have cI:((((aS l).length:Int)==1))=true:=by rw [<-aU l] at h1;exact h1
   refine ae ?_;have hc:=dZ s hs;rw [h0] at hc;refine ab [] hc ?_;have hc:=eZ (.mk ⟨3,a,0,s,ks⟩ l) 1 hl;refine ab [] hc ?_;refine bR ?_;exact ⟨by first | rfl | (rw [aU];rfl),rfl⟩
theorem Xe (a:Int) (s:ah) (ks:List Int) (l:List T) (hs:s.length<=1099511627776) (hl:l.length<=1099511627776) (ha:decide (a < 0)=false):GF Tryz.prog 217 [.agg (cT (.mk ⟨4,a,0,s,ks⟩ l))] [] (.v (.bool (bN (.mk ⟨4,a,0,s,ks⟩ l)))) []:=by
 have how:bN (.mk ⟨4,a,0,s,ks⟩ l)=(bp s&&bj l.length 0 l):=by unfold bN own;rw [if_neg (by show ¬ (decide (a < 0)=true);rw [ha];decide)];rfl
 rw [how];refine db Tryz.func217 Tryz.ntmps217 ?_
 cases h0:bp s with
 | false =>
  refine ae ?_;have hc:=dZ s hs;rw [h0] at hc;refine ab [] hc ?_;exact al
 | true =>
  refine ae ?_;have hc:=dZ s hs;rw [h0] at hc;refine ab [] hc ?_;have hc:=eZ (.mk ⟨4,a,0,s,ks⟩ l) (aS l).length hl;refine ab [] hc ?_;refine bR ?_;exact ⟨by first | rfl | (rw [aU];rfl),rfl⟩
theorem Xh (a:Int) (s:ah) (ks:List Int) (l:List T) (hs:s.length<=1099511627776) (hl:l.length<=1099511627776) (ha:decide (a < 0)=false):GF Tryz.prog 217 [.agg (cT (.mk ⟨6,a,0,s,ks⟩ l))] [] (.v (.bool (bN (.mk ⟨6,a,0,s,ks⟩ l)))) []:=by
 have how:bN (.mk ⟨6,a,0,s,ks⟩ l)=(eB s&&(((l.length:Int)==2)&&bj 2 0 l)):=by unfold bN own;rw [if_neg (by show ¬ (decide (a < 0)=true);rw [ha];decide)];rfl
 rw [how];refine db Tryz.func217 Tryz.ntmps217 ?_
 cases h0:eB s with
 | false =>
  refine ae ?_;have hc:=tj s;rw [h0] at hc;refine ab [] hc ?_;exact al
 | true =>
  cases h1:((l.length:Int)==2) with
  | false =>
   have cI:((((aS l).length:Int)==2))=false:=by rw [<-aU l] at h1;exact h1
   refine ae ?_;have hc:=tj s;rw [h0] at hc;refine ab [] hc ?_;exact al
  | true =>
   have cI:((((aS l).length:Int)==2))=true:=by rw [<-aU l] at h1;exact h1
   refine ae ?_;have hc:=tj s;rw [h0] at hc;refine ab [] hc ?_;have hc:=eZ (.mk ⟨6,a,0,s,ks⟩ l) 2 hl;refine ab [] hc ?_;refine bR ?_;exact ⟨by first | rfl | (rw [aU];rfl),rfl⟩
theorem Xi (a:Int) (s:ah) (ks:List Int) (l:List T) (hs:s.length<=1099511627776) (hl:l.length<=1099511627776) (ha:decide (a < 0)=false):GF Tryz.prog 217 [.agg (cT (.mk ⟨7,a,0,s,ks⟩ l))] [] (.v (.bool (bN (.mk ⟨7,a,0,s,ks⟩ l)))) []:=by
 have how:bN (.mk ⟨7,a,0,s,ks⟩ l)=(bp s&&(((l.length:Int)==1)&&bj 1 0 l)):=by unfold bN own;rw [if_neg (by show ¬ (decide (a < 0)=true);rw [ha];decide)];rfl
 rw [how];refine db Tryz.func217 Tryz.ntmps217 ?_
 cases h0:bp s with
 | false =>
  refine ae ?_;have hc:=dZ s hs;rw [h0] at hc;refine ab [] hc ?_;exact al
 | true =>
  cases h1:((l.length:Int)==1) with
  | false =>
   have cI:((((aS l).length:Int)==1))=false:=by rw [<-aU l] at h1;exact h1
   refine ae ?_;have hc:=dZ s hs;rw [h0] at hc;refine ab [] hc ?_;exact al
  | true =>
   have cI:((((aS l).length:Int)==1))=true:=by rw [<-aU l] at h1;exact h1
   refine ae ?_;have hc:=dZ s hs;rw [h0] at hc;refine ab [] hc ?_;have hc:=eZ (.mk ⟨7,a,0,s,ks⟩ l) 1 hl;refine ab [] hc ?_;refine bR ?_;exact ⟨by first | rfl | (rw [aU];rfl),rfl⟩
theorem Xj (a:Int) (s:ah) (ks:List Int) (l:List T) (hs:s.length<=1099511627776) (hl:l.length<=1099511627776) (ha:decide (a < 0)=false):GF Tryz.prog 217 [.agg (cT (.mk ⟨8,a,0,s,ks⟩ l))] [] (.v (.bool (bN (.mk ⟨8,a,0,s,ks⟩ l)))) []:=by
 have how:bN (.mk ⟨8,a,0,s,ks⟩ l)=(bp s&&(((l.length:Int)==2)&&bj 2 0 l)):=by unfold bN own;rw [if_neg (by show ¬ (decide (a < 0)=true);rw [ha];decide)];rfl
 rw [how];refine db Tryz.func217 Tryz.ntmps217 ?_
 cases h0:bp s with
 | false =>
  refine ae ?_;have hc:=dZ s hs;rw [h0] at hc;refine ab [] hc ?_;exact al
 | true =>
  cases h1:((l.length:Int)==2) with
  | false =>
   have cI:((((aS l).length:Int)==2))=false:=by rw [<-aU l] at h1;exact h1
   refine ae ?_;have hc:=dZ s hs;rw [h0] at hc;refine ab [] hc ?_;exact al
  | true =>
   have cI:((((aS l).length:Int)==2))=true:=by rw [<-aU l] at h1;exact h1
   refine ae ?_;have hc:=dZ s hs;rw [h0] at hc;refine ab [] hc ?_;have hc:=eZ (.mk ⟨8,a,0,s,ks⟩ l) 2 hl;refine ab [] hc ?_;refine bR ?_;exact ⟨by first | rfl | (rw [aU];rfl),rfl⟩
theorem VC (a:Int) (s:ah) (ks:List Int) (l:List T) (hs:s.length<=1099511627776) (hl:l.length<=1099511627776) (ha:decide (a < 0)=false):GF Tryz.prog 217 [.agg (cT (.mk ⟨10,a,0,s,ks⟩ l))] [] (.v (.bool (bN (.mk ⟨10,a,0,s,ks⟩ l)))) []:=by
 have how:bN (.mk ⟨10,a,0,s,ks⟩ l)=((s==[])&&(((l.length:Int)==2)&&bj 1 0 l)):=by unfold bN own;rw [if_neg (by show ¬ (decide (a < 0)=true);rw [ha];decide)];rfl
 rw [how];refine db Tryz.func217 Tryz.ntmps217 ?_
 cases h0:(s==[]) with
 | false =>
  exact av
 | true =>
  cases h1:((l.length:Int)==2) with
  | false =>
   have cI:((((aS l).length:Int)==2))=false:=by rw [<-aU l] at h1;exact h1
   exact av
  | true =>
   have cI:((((aS l).length:Int)==2))=true:=by rw [<-aU l] at h1;exact h1
   refine ae ?_;have hc:=eZ (.mk ⟨10,a,0,s,ks⟩ l) 1 hl;refine ab [] hc ?_;refine bR ?_;exact ⟨by first | rfl | (rw [aU];rfl),rfl⟩
theorem VD (a:Int) (s:ah) (ks:List Int) (l:List T) (hs:s.length<=1099511627776) (hl:l.length<=1099511627776) (ha:decide (a < 0)=false):GF Tryz.prog 217 [.agg (cT (.mk ⟨11,a,0,s,ks⟩ l))] [] (.v (.bool (bN (.mk ⟨11,a,0,s,ks⟩ l)))) []:=by
 have how:bN (.mk ⟨11,a,0,s,ks⟩ l)=((s==[])&&(((l.length:Int)==1)&&bj 1 0 l)):=by unfold bN own;rw [if_neg (by show ¬ (decide (a < 0)=true);rw [ha];decide)];rfl
 rw [how];refine db Tryz.func217 Tryz.ntmps217 ?_
 cases h0:(s==[]) with
 | false =>
  exact av
 | true =>
  cases h1:((l.length:Int)==1) with
  | false =>
   have cI:((((aS l).length:Int)==1))=false:=by rw [<-aU l] at h1;exact h1
   exact av
  | true =>
   have cI:((((aS l).length:Int)==1))=true:=by rw [<-aU l] at h1;exact h1
   refine ae ?_;have hc:=eZ (.mk ⟨11,a,0,s,ks⟩ l) 1 hl;refine ab [] hc ?_;refine bR ?_;exact ⟨by first | rfl | (rw [aU];rfl),rfl⟩
theorem VE (a:Int) (s:ah) (ks:List Int) (l:List T) (hs:s.length<=1099511627776) (hl:l.length<=1099511627776) (ha:decide (a < 0)=false):GF Tryz.prog 217 [.agg (cT (.mk ⟨12,a,0,s,ks⟩ l))] [] (.v (.bool (bN (.mk ⟨12,a,0,s,ks⟩ l)))) []:=by
 have how:bN (.mk ⟨12,a,0,s,ks⟩ l)=((s==[])&&(((l.length:Int)==1)&&bj 1 0 l)):=by unfold bN own;rw [if_neg (by show ¬ (decide (a < 0)=true);rw [ha];decide)];rfl
 rw [how];refine db Tryz.func217 Tryz.ntmps217 ?_
 cases h0:(s==[]) with
 | false =>
  exact av
 | true =>
  cases h1:((l.length:Int)==1) with
  | false =>
   have cI:((((aS l).length:Int)==1))=false:=by rw [<-aU l] at h1;exact h1
   exact av
  | true =>
   have cI:((((aS l).length:Int)==1))=true:=by rw [<-aU l] at h1;exact h1
   refine ae ?_;have hc:=eZ (.mk ⟨12,a,0,s,ks⟩ l) 1 hl;refine ab [] hc ?_;refine bR ?_;exact ⟨by first | rfl | (rw [aU];rfl),rfl⟩
theorem VF (a:Int) (s:ah) (ks:List Int) (l:List T) (hs:s.length<=1099511627776) (hl:l.length<=1099511627776) (ha:decide (a < 0)=false):GF Tryz.prog 217 [.agg (cT (.mk ⟨13,a,0,s,ks⟩ l))] [] (.v (.bool (bN (.mk ⟨13,a,0,s,ks⟩ l)))) []:=by
 have how:bN (.mk ⟨13,a,0,s,ks⟩ l)=(bp s&&(((l.length:Int)==1)&&bj 1 0 l)):=by unfold bN own;rw [if_neg (by show ¬ (decide (a < 0)=true);rw [ha];decide)];rfl
 rw [how];refine db Tryz.func217 Tryz.ntmps217 ?_
 cases h0:bp s with
 | false =>
  refine ae ?_;have hc:=dZ s hs;rw [h0] at hc;refine ab [] hc ?_;exact al
 | true =>
  cases h1:((l.length:Int)==1) with
  | false =>
   have cI:((((aS l).length:Int)==1))=false:=by rw [<-aU l] at h1;exact h1
   refine ae ?_;have hc:=dZ s hs;rw [h0] at hc;refine ab [] hc ?_;exact al
  | true =>
   have cI:((((aS l).length:Int)==1))=true:=by rw [<-aU l] at h1;exact h1
   refine ae ?_;have hc:=dZ s hs;rw [h0] at hc;refine ab [] hc ?_;have hc:=eZ (.mk ⟨13,a,0,s,ks⟩ l) 1 hl;refine ab [] hc ?_;refine bR ?_;exact ⟨by first | rfl | (rw [aU];rfl),rfl⟩
theorem Xf (a:Int) (s:ah) (ks:List Int) (l:List T) (hs:s.length<=1099511627776) (hl:l.length<=1099511627776) (ha:decide (a < 0)=false):GF Tryz.prog 217 [.agg (cT (.mk ⟨5,a,0,s,ks⟩ l))] [] (.v (.bool (bN (.mk ⟨5,a,0,s,ks⟩ l)))) []:=by
 have how:bN (.mk ⟨5,a,0,s,ks⟩ l)=((s==[45] || s==[33] || s==[126])&&(((l.length:Int)==1)&&bj 1 0 l)):=by unfold bN own;rw [if_neg (by show ¬ (decide (a < 0)=true);rw [ha];decide)];rfl
 rw [how];refine db Tryz.func217 Tryz.ntmps217 ?_
 cases h1:(s==[45]) with
 | true =>
  cases h4:((l.length:Int)==1) with
  | false =>
   have MN:(((aS l).length:Int)==1)=false:=by rw [<-aU l] at h4;exact h4
   exact av
  | true =>
   have MN:(((aS l).length:Int)==1)=true:=by rw [<-aU l] at h4;exact h4
   refine ae ?_;have hc:=eZ (.mk ⟨5,a,0,s,ks⟩ l) 1 hl;refine ab [] hc ?_;exact al
 | false =>
  cases h2:(s==[33]) with
  | true =>
   cases h4:((l.length:Int)==1) with
   | false =>
    have MN:(((aS l).length:Int)==1)=false:=by rw [<-aU l] at h4;exact h4
    exact av
   | true =>
    have MN:(((aS l).length:Int)==1)=true:=by rw [<-aU l] at h4;exact h4
    refine ae ?_;have hc:=eZ (.mk ⟨5,a,0,s,ks⟩ l) 1 hl;refine ab [] hc ?_;exact al
  | false =>
   cases h3:(s==[126]) with
   | false =>
    exact av
   | true =>
    cases h4:((l.length:Int)==1) with
    | false =>
     have MN:(((aS l).length:Int)==1)=false:=by rw [<-aU l] at h4;exact h4
     exact av
    | true =>
     have MN:(((aS l).length:Int)==1)=true:=by rw [<-aU l] at h4;exact h4
     refine ae ?_;have hc:=eZ (.mk ⟨5,a,0,s,ks⟩ l) 1 hl;refine ab [] hc ?_;exact al
theorem Xk (a:Int) (s:ah) (ks:List Int) (l:List T) (hs:s.length<=1099511627776) (hl:l.length<=1099511627776) (ha:decide (a < 0)=false):GF Tryz.prog 217 [.agg (cT (.mk ⟨9,a,0,s,ks⟩ l))] [] (.v (.bool (bN (.mk ⟨9,a,0,s,ks⟩ l)))) []:=by
 have how:bN (.mk ⟨9,a,0,s,ks⟩ l)=((s==[])&&((((l.length:Int)==2) || ((l.length:Int)==3))&&bj 1 0 l)):=by unfold bN own;rw [if_neg (by show ¬ (decide (a < 0)=true);rw [ha];decide)];rfl
 rw [how];refine db Tryz.func217 Tryz.ntmps217 ?_
 cases h0:(s==[]) with
 | false =>
  exact av
 | true =>
  cases h1:((l.length:Int)==2) with
  | true =>
   have cI:(((aS l).length:Int)==2)=true:=by rw [<-aU l] at h1;exact h1
   refine ae ?_;have hc:=eZ (.mk ⟨9,a,0,s,ks⟩ l) 1 hl;refine ab [] hc ?_;exact al
  | false =>
   have cI:(((aS l).length:Int)==2)=false:=by rw [<-aU l] at h1;exact h1
   cases h2:((l.length:Int)==3) with
   | true =>
    have qo:(((aS l).length:Int)==3)=true:=by rw [<-aU l] at h2;exact h2
    refine ae ?_;have hc:=eZ (.mk ⟨9,a,0,s,ks⟩ l) 1 hl;refine ab [] hc ?_;exact al
   | false =>
    have qo:(((aS l).length:Int)==3)=false:=by rw [<-aU l] at h2;exact h2
    exact av
theorem VG (a:Int) (s:ah) (ks:List Int) (l:List T) (hs:s.length<=1099511627776) (hl:l.length<=1099511627776) (ha:decide (a < 0)=false):GF Tryz.prog 217 [.agg (cT (.mk ⟨14,a,0,s,ks⟩ l))] [] (.v (.bool (bN (.mk ⟨14,a,0,s,ks⟩ l)))) []:=by
 have how:bN (.mk ⟨14,a,0,s,ks⟩ l)=((l.all fun x=>fZ x.n.kind)&&(s==[])):=by unfold bN own;rw [if_neg (by show ¬ (decide (a < 0)=true);rw [ha];decide)];rfl
 rw [how];refine ai Tryz.func217 Tryz.ntmps217 ?_;refine GW.range (aS l).length (fun k fr Γ=>∃ n,fr=[.U,.loc 0 0,.U,.loc 1 0,.U,.U,.U,.U,.U,.U,.U,.U,.U,.U,.U,.U,.U,.U,.U,.U,.U,.U,.U,.U,.U,.U,.U,.U,.U,.U,.U,.U,.U,.U,.U,.U,.U,.U,.U,.U,.U,.U,.U,.U,.U,.U,.U,.U,.U,.U,.U,.U,.U,.U,.U,.U,.U,.U,.U,.U,.U,.U,.U,.U,.U,.U,.U,.U,.U,.U,.U,.U,.U,.U,.U,.U,.U,.U,.U,.U,.U,.U,.U,.U,.U,.U,.U,.U,.U,.U,.U,.U,.U,.U,.U,.U,.U,.U,.U,.U,.U,.U,.U,.U,.U,.U,.U,.U,.U,.U,.U,.U,.U,.U,.U,.U,.U,.U,.U,.U,.U,.U,.U,.U,.U,.U,.U,.U,.U,.U,.U,.U,.U,.U,.U,.U,.U,.U,.U,.U,.U,.U,.U,.U,.U,.U,.U,.U,.U,.U,.U,.U,.U,.U,.U,.U,.U,.U,.U,.U,.U,.U,.U,.U,.U,.U,.U,.U,.U,.U,.U,.U,.U,.U,.U,.U,.sl 6 (aS l),.v (ii ((aS l).length:Int)),.v (ii (k:Nat)),.U,.U,.U,.U,.U,.U,.U,.U,.U,.U,.U,.U]/\Γ=[.box 94 (cT (.mk ⟨14,a,0,s,ks⟩ l)),.box 91 n]/\n=ay ⟨14,a,0,s,ks⟩/\((l.take k).all fun x=>fZ x.n.kind)=true) ?_ (by rw [aU];exact hl) ?_ ?_ ?_
 ·exact ⟨_,_,Wk.aC aq,_,rfl,rfl,rfl,rfl⟩
 ·rintro k _ _ ⟨_,rfl,rfl,_⟩;exact dQ
 ·rintro k _ _ hk ⟨_,rfl,rfl,rfl,hf⟩
  have hk:k < l.length:=by rw [aU] at hk;exact hk
  have hx:l[k]?=some l[k]:=by simp [hk]
  have hr:=cV hx;generalize l[k]=x at *;have he:=Hp x.n.kind
  cases hb:fZ x.n.kind with
  | true =>
   rw [hb] at he;refine ae ?_;refine ab [] he ?_;exact ⟨rfl,rfl,_,_,(Wk.cut (n:=2) (Nat.le_of_ble_eq_true rfl) rfl).trans (Wk.aC aq),_,rfl,rfl,rfl,by rw [take_add_one,hx,all_append,hf];simp only [Option.toList,all_cons,all_nil,hb];rfl⟩
  | false =>
   rw [hb] at he;refine ae ?_;refine ab [] he ?_;refine bR ?_
   have ha:(l.all fun x=>fZ x.n.kind)=false:=by
    rw [all_eq_false];exact ⟨x,mem_of_getElem? hx,by simp [hb]⟩
   rw [ha];exact ⟨rfl,rfl⟩
 ·rintro _ _ ⟨_,rfl,rfl,rfl,hf⟩
  have hf:(l.all fun x=>fZ x.n.kind)=true:=by
   rw [take_of_length_le (by rw [aU];omega)] at hf;exact hf
  rw [hf];exact av
theorem Xo (k a n:Int) (s:ah) (ks:List Int) (l:List T) (hk:k=1\/k=2\/k=3\/k=4\/k=5\/k=6\/k=7\/k=8\/k=9\/k=10\/k=11\/k=12\/k=13\/k=14\/True) (hx:¬ (k=1\/k=2\/k=3\/k=4\/k=5\/k=6\/k=7\/k=8\/k=9\/k=10\/k=11\/k=12\/k=13\/k=14)) (ha:decide (a < 0)=false) (hn:(n != 0)=false):GF Tryz.prog 217 [.agg (cT (.mk ⟨k,a,n,s,ks⟩ l))] [] (.v (.bool (bN (.mk ⟨k,a,n,s,ks⟩ l)))) []:=by
 simp only [not_or] at hx;obtain ⟨h1,h2,h3,h4,h5,h6,h7,h8,h9,la,oD,oa,eI,AU⟩:=hx
 have h1:(k==1)=false:=by simpa using h1
 have h1x:(k != 1)=true:=by simp only [bne,h1];rfl
 have h2:(k==2)=false:=by simpa using h2
 have h3:(k==3)=false:=by simpa using h3
 have h4:(k==4)=false:=by simpa using h4
 have h5:(k==5)=false:=by simpa using h5
 have h6:(k==6)=false:=by simpa using h6
 have h7:(k==7)=false:=by simpa using h7
 have h8:(k==8)=false:=by simpa using h8
 have h9:(k==9)=false:=by simpa using h9
 have la:(k==10)=false:=by simpa using la
 have oD:(k==11)=false:=by simpa using oD
 have oa:(k==12)=false:=by simpa using oa
 have eI:(k==13)=false:=by simpa using eI
 have AU:(k==14)=false:=by simpa using AU
 have how:bN (.mk ⟨k,a,n,s,ks⟩ l)=false:=by
  show own ⟨k,a,n,s,ks⟩ _ _ _=_;simp [own,h1,h2,h3,h4,h5,h6,h7,h8,h9,la,oD,oa,eI,AU]
 rw [how];refine ai Tryz.func217 Tryz.ntmps217 ?_;exact al
theorem Xl (k a n:Int) (s:ah) (ks:List Int) (l:List T) (ha:decide (a < 0)=true):GF Tryz.prog 217 [.agg (cT (.mk ⟨k,a,n,s,ks⟩ l))] [] (.v (.bool (bN (.mk ⟨k,a,n,s,ks⟩ l)))) []:=by
 have how:bN (.mk ⟨k,a,n,s,ks⟩ l)=false:=by
  show own ⟨k,a,n,s,ks⟩ _ _ _=_;unfold own;rw [if_pos ha]
 rw [how];refine ai Tryz.func217 Tryz.ntmps217 ?_;exact al
theorem Xn (k a n:Int) (s:ah) (ks:List Int) (l:List T) (ha:decide (a < 0)=false) (hk:(k != 1)=true) (hn:(n != 0)=true):GF Tryz.prog 217 [.agg (cT (.mk ⟨k,a,n,s,ks⟩ l))] [] (.v (.bool (bN (.mk ⟨k,a,n,s,ks⟩ l)))) []:=by
 have how:bN (.mk ⟨k,a,n,s,ks⟩ l)=false:=by
  show own ⟨k,a,n,s,ks⟩ _ _ _=_;unfold own;rw [if_neg (by show ¬ (decide (a < 0)=true);rw [ha];decide),if_pos (by show ((k != 1)&&(n != 0))=true;rw [hk,hn];rfl)]
 rw [how];refine ai Tryz.func217 Tryz.ntmps217 ?_;exact al
theorem PR (t:T) (hs:t.n.s.length<=1099511627776) (hl:t.kids.length<=1099511627776):GF Tryz.prog 217 [.agg (cT t)] [] (.v (.bool (bN t))) []:=by
 obtain ⟨⟨k,a,n,s,ks⟩,l⟩:=t
 cases ha:decide (a < 0) with
 | true=>exact Xl k a n s ks l ha
 | false =>
 by_cases r8:k=1
 ·subst r8;exact Xb a n s ks l hs hl ha
 by_cases hn:n=0
 ·subst hn
  by_cases h:k=1\/k=2\/k=3\/k=4\/k=5\/k=6\/k=7\/k=8\/k=9\/k=10\/k=11\/k=12\/k=13\/k=14
  ·rcases h with rfl | rfl | rfl | rfl | rfl | rfl | rfl | rfl | rfl | rfl | rfl | rfl | rfl | rfl
   ·exact absurd rfl r8
   ·exact Xc a s ks l hs hl ha
   ·exact Xd a s ks l hs hl ha
   ·exact Xe a s ks l hs hl ha
   ·exact Xf a s ks l hs hl ha
   ·exact Xh a s ks l hs hl ha
   ·exact Xi a s ks l hs hl ha
   ·exact Xj a s ks l hs hl ha
   ·exact Xk a s ks l hs hl ha
   ·exact VC a s ks l hs hl ha
   ·exact VD a s ks l hs hl ha
   ·exact VE a s ks l hs hl ha
   ·exact VF a s ks l hs hl ha
   ·exact VG a s ks l hs hl ha
  ·exact Xo k a 0 s ks l (by simp) h ha rfl
 ·exact Xn k a n s ks l ha (by simpa using r8) (by simpa using hn)
theorem LK (l:List T):bW l=l.all c8:=by
 induction l with
 | nil=>simp [bW]
 | cons a l ih=>simp [bW,ih]
theorem PQ:∀ (sz:Nat) (t:T),SizeOf.sizeOf t<=sz->Gp t->GF Tryz.prog 189 [.agg (cT t)] [] (.v (.bool (c8 t))) []:=by
 intro sz
 induction sz with
 | zero=>intro t h _;cases t;simp at h
 | succ sz ih =>
 intro t cU iU;obtain ⟨n,l⟩:=t;have aaE:=iU;rw [Gp] at iU;obtain ⟨hs,hl,hm⟩:=iU
 have how:c8 (.mk n l)=(bW l&&bN (.mk n l)):=by rw [c8]
 rw [how];rw [LK];refine ai Tryz.func189 Tryz.ntmps189 ?_;refine GW.range (aS l).length (fun k fr Γ=>fr=[.U,.loc 0 0,.U,.U,.U,.U,.sl 6 (aS l),.v (ii ((aS l).length:Int)),.v (ii (k:Nat)),.U,.U,.U,.U,.U,.U,.U,.U,.U]/\Γ=[.box 94 (cT (.mk n l))]/\((l.take k).all c8)=true) ?_ (by rw [aU];exact hl) ?_ ?_ ?_
 ·exact jz
 ·exact gy
 ·rintro k _ _ hk ⟨rfl,rfl,hf⟩
  have hk:k < l.length:=by rw [aU] at hk;exact hk
  have hx:l[k]?=some l[k]:=by simp [hk]
  have wb:=mem_of_getElem? hx;have ak:=List.sizeOf_lt_of_mem wb;have hr:=cV hx;have he:=ih l[k] (by simp at cU;omega) (Gr hm wb);generalize l[k]=x at *
  cases hb:c8 x with
  | true =>
   rw [hb] at he;refine ae ?_;refine ab [] he ?_;exact ⟨rfl,rfl,_,_,(Wk.cut (n:=1) (Nat.le_of_ble_eq_true rfl) rfl).trans (Wk.aC aq),rfl,rfl,by rw [take_add_one,hx,all_append,hf];simp only [Option.toList,all_cons,all_nil,hb];rfl⟩
  | false =>
   rw [hb] at he;refine ae ?_;refine ab [] he ?_;refine bR ?_
   have ha:(l.all c8)=false:=by
    rw [all_eq_false];exact ⟨x,mem_of_getElem? hx,by simp [hb]⟩
   rw [ha];exact ⟨rfl,rfl⟩
 ·rintro _ _ ⟨rfl,rfl,hf⟩
  have hf:(l.all c8)=true:=by
   rw [take_of_length_le (by rw [aU];omega)] at hf;exact hf
  rw [hf];refine ae ?_;refine ab [] (PR (.mk n l) hs hl) ?_;exact al
theorem PO (t:T) (h:Gp t):GF Tryz.prog 189 [.agg (cT t)] [] (.v (.bool (c8 t))) []:=PQ _ t (Nat.le_refl _) h
structure BB (p:Src):Prop where
 globals:p.globals.length<=1000000000000/\∀ s∈p.globals,s.length<=1000000000000
 arrays:p.arrays.length<=1000000000000/\∀ a∈p.arrays,a.name.length<=1000000000000
 fns:p.fns.length<=1000000000000/\∀ f∈p.fns,f.name.length<=1000000000000/\f.params.length<=1000000000000/\∀ s∈f.params,s.length<=1000000000000
 nodes:p.nodes.length<=1000000000000/\∀ n∈p.nodes,n.s.length<=1000000000000/\n.kids.length<=1000000000000
theorem Jd {l:List ah} {i:Nat} {s:ah} (h:l[i]?=some s):(l.map fun s=>[GV.v (sv s)])[i]?=some [.v (sv s)]:=by rw [getElem?_map,h];rfl
theorem Ge {l:List Ar} {i:Nat} {s:Ar} (h:l[i]?=some s):(l.map aD)[i]?=some (aD s):=by rw [getElem?_map,h];rfl
theorem Bu {l:List Go.Sp.Fn} {i:Nat} {s:Go.Sp.Fn} (h:l[i]?=some s):(l.map aw)[i]?=some (aw s):=by rw [getElem?_map,h];rfl
theorem uO {α:Type} {l:List α} {q:α->Bool} {k:Nat} {x:α} (hx:l[k]?=some x) (hb:q x=false):l.all q=false:=by
 rw [all_eq_false];exact ⟨x,mem_of_getElem? hx,by simp [hb]⟩
theorem Bi (p:Src) (hp:BB p) (b:Bool) (h:nZ p=some b):GF Tryz.prog 151 [.agg (ax p)] [] (.v (.bool b)) []:=by
 unfold nZ at h;refine ai Tryz.func151 Tryz.ntmps151 ?_;refine GW.range (p.globals.map fun s=>[GV.v (sv s)]).length (fun k fr Γ=>fr=[.U,.loc 0 0,.U,.v (ii 0),.U,.U,.U,.U,.U,.U,.U,.U,.U,.U,.U,strs p.globals,.v (ii ((p.globals.map fun s=>[GV.v (sv s)]).length:Int)),.v (ii (k:Nat)),.U,.U,.U,.U,.U,.U,.U,.U,.U,.U,.U,.U,.U,.U,.U,.U,.U,.U,.U,.U,.U,.U,.U,.U,.U,.U,.U,.U,.U,.U,.U,.U,.U,.U,.U,.U,.U,.U,.U,.U,.U,.U,.U,.U,.U,.U,.U,.U,.U,.U,.U,.U,.U,.U,.U,.U,.U,.U,.U,.U,.U,.U,.U,.U,.U,.U,.U,.U,.U,.U,.U,.U,.U,.U,.U,.U,.U,.U,.U,.U,.U,.U,.U,.U,.U,.U,.U]/\Γ=[.box 34 (ax p)]/\((p.globals.take k).all bp)=true) ?_ (by simpa using by have:=hp.globals.1;omega) ?_ ?_ ?_
 ·exact jz
 ·exact gy
 ·rintro k _ _ hk ⟨rfl,rfl,hf⟩
  have hk:k < p.globals.length:=by simpa using hk
  have hx:p.globals[k]?=some p.globals[k]:=by simp [hk]
  have hr:=Jd hx;have hl:=hp.globals.2 _ (mem_of_getElem? hx);generalize p.globals[k]=x at *;have he:=dZ x ag
  cases hb:bp x with
  | true =>
   rw [hb] at he;refine ae ?_;refine ab [] he ?_;exact ⟨rfl,rfl,_,_,Wk.aC aq,rfl,rfl,sM hx hf hb⟩
  | false =>
   rw [hb] at he;rw [if_pos (show cx p.globals=false from uO hx hb)] at h;cases h;refine ae ?_;refine ab [] he ?_;exact al
 ·rintro _ _ ⟨rfl,rfl,hf⟩;rw [take_of_length_le (by simp)] at hf;rw [if_neg (by rw [show cx p.globals=true from hf];decide)] at h;refine ae ?_;refine GW.range (p.arrays.map aD).length (fun k fr Γ=>fr=[.U,.loc 0 0,.U,.v (ii 0),.U,.U,.U,.U,.U,.U,.U,.U,.U,.U,.U,.U,.U,.U,.U,.U,.U,.U,.U,.U,.U,.U,.sl 2 (p.arrays.map aD),.v (ii ((p.arrays.map aD).length:Int)),.v (ii (k:Nat)),.U,.U,.U,.U,.U,.U,.U,.U,.U,.U,.U,.U,.U,.U,.U,.U,.U,.U,.U,.U,.U,.U,.U,.U,.U,.U,.U,.U,.U,.U,.U,.U,.U,.U,.U,.U,.U,.U,.U,.U,.U,.U,.U,.U,.U,.U,.U,.U,.U,.U,.U,.U,.U,.U,.U,.U,.U,.U,.U,.U,.U,.U,.U,.U,.U,.U,.U,.U,.U,.U,.U,.U,.U,.U,.U,.U]/\Γ=[.box 34 (ax p)]/\((p.arrays.take k).all oq)=true) ?_ (by simpa using by have:=hp.arrays.1;omega) ?_ ?_ ?_
  ·exact jz
  ·exact gy
  ·rintro k _ _ hk ⟨rfl,rfl,hf⟩
   have hk:k < p.arrays.length:=by simpa using hk
   have hx:p.arrays[k]?=some p.arrays[k]:=by simp [hk]
   have hr:=Ge hx;have hl:=hp.arrays.2 _ (mem_of_getElem? hx);generalize p.arrays[k]=x at *;have he:=dZ x.name ag
   cases hb:bp x.name with
   | false =>
    rw [hb] at he;rw [if_pos (uO hx (by simp [oq,hb]))] at h;cases h;refine ae ?_;refine ab [] he ?_;exact al
   | true =>
    rw [hb] at he
    cases h1:decide (x.size < 0) with
    | true =>
     rw [if_pos (uO hx (by simp only [oq,hb,h1];rfl))] at h;cases h;refine ae ?_;refine ab [] he ?_;exact al
    | false =>
     cases h2:decide (2147483647 < x.size) with
     | true =>
      rw [if_pos (uO hx (by simp only [oq,hb,h1,h2];rfl))] at h;cases h;refine ae ?_;refine ab [] he ?_;exact al
     | false =>
      refine ae ?_;refine ab [] he ?_;exact ⟨rfl,rfl,_,_,(Wk.cut (n:=1) (Nat.le_of_ble_eq_true rfl) rfl).trans (Wk.aC aq),rfl,rfl,sM hx hf (by simp only [oq,hb,h1,h2];rfl)⟩
  ·rintro _ _ ⟨rfl,rfl,hf⟩;rw [take_of_length_le (by simp)] at hf;rw [if_neg (by rw [hf];decide)] at h;refine ae ?_;refine GW.range (p.fns.map aw).length (fun k fr Γ=>∃ nx,fr=[.U,.loc 0 0,.U,.v (ii nx),.U,.U,.U,.U,.U,.U,.U,.U,.U,.U,.U,.U,.U,.U,.U,.U,.U,.U,.U,.U,.U,.U,.U,.U,.U,.U,.U,.U,.U,.U,.U,.U,.U,.U,.U,.U,.U,.U,.U,.U,.U,.U,.U,.U,.sl 3 (p.fns.map aw),.v (ii ((p.fns.map aw).length:Int)),.v (ii (k:Nat)),.U,.U,.U,.U,.U,.U,.U,.U,.U,.U,.U,.U,.U,.U,.U,.U,.U,.U,.U,.U,.U,.U,.U,.U,.U,.U,.U,.U,.U,.U,.U,.U,.U,.U,.U,.U,.U,.U,.U,.U,.U,.U,.U,.U,.U,.U,.U,.U,.U,.U,.U,.U,.U,.U]/\Γ=[.box 34 (ax p)]/\0<=nx/\(match fR p.nodes (p.fns.drop k) nx with | none=>none | some none=>some false | some (some next)=>some (next==(p.nodes.length:Int)&&decide (next<=800)))=some b) ?_ (by simpa using by have:=hp.fns.1;omega) ?_ ?_ ?_
   ·exact ⟨_,_,Wk.aC aq,_,rfl,rfl,Int.le_refl _,h⟩
   ·rintro k _ _ ⟨_,rfl,rfl,_⟩;exact dQ
   ·clear h hf;rintro k _ _ hk ⟨nx,rfl,rfl,pS,h⟩
    have hk:k < p.fns.length:=by simpa using hk
    have hx:p.fns[k]?=some p.fns[k]:=by simp [hk]
    have hr:=Bu hx;have hl:=hp.fns.2 _ (mem_of_getElem? hx);rw [drop_eq_getElem_cons hk,fR] at h;generalize p.fns[k]=x at *
    cases he:ot p.nodes (fN p.nodes) nx.toNat 0 with
    | none=>rw [he] at h;cases h
    | some e =>
    rw [he] at h;simp only at h;have oW:=Wt p hp.nodes.1 (fun n hn=>(hp.nodes.2 n hn).2) _ _ 0 _ ag he;rw [Int.toNat_of_nonneg pS] at oW;have b9:=dZ x.name ag
    by_cases h1:x.body=nx
    ·have cI:(x.body != nx)=false:=by simpa using h1
     cases hb:bp x.name with
     | false =>
      rw [hb] at b9;rw [if_pos (.inr (.inl hb))] at h;cases h;refine ae ?_;refine ab [] oW ?_;refine ab [] b9 ?_;exact al
     | true =>
      rw [hb] at b9
      by_cases h2:e < 0
      ·have qo:decide (e < 0)=true:=by simpa using h2
       rw [if_pos (.inr (.inr h2))] at h;cases h;refine ae ?_;refine ab [] oW ?_;refine ab [] b9 ?_;exact al
      ·have qo:decide (e < 0)=false:=by simpa using h2
       rw [if_neg (by rw [hb];simp [h1,h2])] at h;refine ae ?_;refine ab [] oW ?_;refine ab [] b9 ?_;refine GW.range (x.params.map fun s=>[GV.v (sv s)]).length (fun j fr Γ=>fr=[.U,.loc 0 0,.U,.v (ii nx),.U,.U,.U,.U,.U,.loc 1 0,.v (ii e),.U,.U,.U,.U,.U,.U,.U,.U,.U,.U,.U,.U,.U,.U,.U,.U,.U,.U,.U,.U,.U,.U,.U,.U,.U,.U,.U,.U,.U,.U,.U,.U,.U,.U,.U,.U,.U,.sl 3 (p.fns.map aw),.v (ii ((p.fns.map aw).length:Int)),.v (ii (k:Nat)),.U,.U,.U,.U,.U,.U,.U,.U,.U,.U,.U,.U,.U,.U,.U,.U,.U,.U,.U,.U,.U,strs x.params,.v (ii ((x.params.map fun s=>[GV.v (sv s)]).length:Int)),.v (ii (j:Nat)),.U,.U,.U,.U,.U,.U,.U,.U,.U,.U,.U,.U,.U,.U,.U,.U,.U,.U,.U,.U,.U,.U,.U,.U,.U,.U,.U,.U,.U,.U]/\Γ=[.box 34 (ax p),.box 60 (aw x)]/\((x.params.take j).all bp)=true) ?_ (by simpa using by omega) ?_ ?_ ?_
       ·exact jz
       ·exact gy
       ·rintro j _ _ hj ⟨rfl,rfl,hf⟩
        have hj:j < x.params.length:=by simpa using hj
        have px:x.params[j]?=some x.params[j]:=by simp [hj]
        have Ru:=Jd px;have mz:=hl.2.2 _ (mem_of_getElem? px);generalize x.params[j]=y at *;have bO:=dZ y ag
        cases hb:bp y with
        | true =>
         rw [hb] at bO;refine ae ?_;refine ab [] bO ?_;exact ⟨rfl,rfl,_,_,Wk.aC aq,rfl,rfl,sM px hf hb⟩
        | false =>
         rw [hb] at bO;rw [if_pos (show cx x.params=false from uO px hb)] at h;cases h;refine ae ?_;refine ab [] bO ?_;exact al
       ·rintro _ _ ⟨rfl,rfl,hf⟩;rw [take_of_length_le (by simp)] at hf;rw [if_neg (by rw [show cx x.params=true from hf];decide)] at h
        cases hs:sub p.nodes (fN p.nodes) nx.toNat with
        | none=>rw [hs] at h;cases h
        | some t =>
        rw [hs] at h;simp only at h;have pU:=Eh p (fun n hn=>(hp.nodes.2 n hn).2) _ _ _ hs;rw [Int.toNat_of_nonneg pS] at pU;have aQ:=PO t ((V0 (fun n hn=>by have:=hp.nodes.2 n hn;omega) _).1 _ _ hs)
        by_cases h3:t.n.kind=14
        ·have jY:(t.n.kind != 14)=false:=by simpa using h3
         cases hb:c8 t with
         | false =>
          rw [hb] at aQ;rw [if_pos (.inr hb)] at h;cases h;refine ae ?_;refine ab [] pU ?_;refine ab [] aQ ?_;exact al
         | true =>
          rw [hb] at aQ;rw [if_neg (by rw [hb];simp [h3])] at h;refine ae ?_;refine ab [] pU ?_;refine ab [] aQ ?_;exact ⟨rfl,rfl,_,_,(Wk.cut (n:=1) (Nat.le_of_ble_eq_true rfl) rfl).trans (Wk.aC aq),_,rfl,rfl,by omega,h⟩
        ·have jY:(t.n.kind != 14)=true:=by simpa using h3
         rw [if_pos (.inl h3)] at h;cases h;refine ae ?_;refine ab [] pU ?_;exact al
    ·have cI:(x.body != nx)=true:=by simpa using h1
     rw [if_pos (.inl h1)] at h;cases h;refine ae ?_;refine ab [] oW ?_;exact al
   ·clear h hf;rintro _ _ ⟨nx,rfl,rfl,pS,h⟩;rw [length_map,List.drop_length,fR] at h;simp only at h;cases h
    cases h1:(nx==(p.nodes.length:Int)) with
    | false =>
     have cI:(nx==((p.nodes.map ay).length:Int))=false:=by rw [length_map];exact h1
     exact av
    | true =>
     have cI:(nx==((p.nodes.map ay).length:Int))=true:=by rw [length_map];exact h1
     exact av
def mR (k:Int) (s:ah):Int:=if k=6 then (match levels.findIdx? (fun l=>l.contains s) with | some i=>(i:Int) | none => -1) else 9
theorem Km (t:T):GF Tryz.prog 277 [.agg (cT t)] [] (.v (.int .i64 (mR t.n.kind t.n.s))) []:=by
 refine db Tryz.func277 Tryz.ntmps277 ?_
 by_cases h6:t.n.kind=6
 ·have h6':(t.n.kind != 6)=false:=by simpa using h6
  unfold mR;rw [if_pos h6];refine ae ?_;refine ab [] jD ?_;refine GW.range (levels.map fun l=>[strs l]).length (fun k fr Γ=>fr=[.U,.loc 0 0,.U,.U,.U,.U,.U,.U,.U,.U,.U,.sl 1 (levels.map fun l=>[strs l]),.v (ii ((levels.map fun l=>[strs l]).length:Int)),.v (ii (k:Nat)),.U,.U,.U,.U,.U,.U,.U,.U,.U,.U,.U]/\Γ=[.box 94 (cT t)]/\((levels.take k).any fun l=>l.contains t.n.s)=false) ?_ aJ ?_ ?_ ?_
  ·exact jz
  ·exact gy
  ·rintro k _ _ hk ⟨rfl,rfl,hf⟩
   have hk:k < levels.length:=by simpa using hk
   have hx:levels[k]?=some levels[k]:=by simp [hk]
   have hr:(levels.map fun l=>[strs l])[k]?=some [strs levels[k]]:=by simp [hk]
   have zq:levels[k].length<=1099511627776:=by
    have:∀ l∈levels,l.length<=1099511627776:=by decide
    exact this _ (getElem_mem hk)
   have zi:levels[k].contains t.n.s=true->levels.findIdx? (fun l=>l.contains t.n.s)=some k:=by
    intro hc;rw [List.findIdx?_eq_some_iff_getElem];refine ⟨hk,hc,fun j hj=>?_⟩;rw [List.any_eq_false] at hf;refine hf _ ?_;rw [List.mem_take_iff_getElem];exact ⟨j,by omega,rfl⟩
   generalize levels[k]=x at *;have hh:=jk x t.n.s zq
   cases hb:x.contains t.n.s with
   | true =>
    rw [hb] at hh;rw [zi hb];refine ae ?_;refine ab [] hh ?_;exact al
   | false =>
    rw [hb] at hh;refine ae ?_;refine ab [] hh ?_;exact ⟨rfl,rfl,_,_,Wk.aC aq,rfl,rfl,by rw [take_add_one,hx,List.any_append,hf];simp only [Option.toList,List.any_cons,List.any_nil,hb];rfl⟩
  ·rintro _ _ ⟨rfl,rfl,hf⟩;rw [take_of_length_le (by simp)] at hf
   have hn:levels.findIdx? (fun l=>l.contains t.n.s)=none:=by
    rw [List.findIdx?_eq_none_iff];intro x hx;rw [List.any_eq_false] at hf;simpa using hf x hx
   rw [hn];exact av
 ·have h6':(t.n.kind != 6)=true:=by simpa using h6
  unfold mR;rw [if_neg h6];refine ae ?_;refine ab [] jD ?_;exact al
end Go.Xg
namespace Go.Xg
open Go.RowKit Go.Xw Go.Proofs
open Go.Xp (Tok Nd T bh one levels Ar yU cD oV)
open Go.Sp
attribute [local irreducible] GW GL GO YG GC GA aV aZ
theorem Sc (n:Int):GF Tryz.prog 300 [.v (ii n)] [] (.v (ii (n % 4294967296))) []:=by
 refine ai Tryz.func300 Tryz.ntmps300 ?_;exact al
theorem TN (n:Int):GF Tryz.prog 292 [.v (ii n)] [] (.v (ii (yU n))) []:=by
 unfold yU
 have hb:0<=n % 4294967296/\n % 4294967296 < 4294967296:=by omega
 have hp:=Sc n;generalize n % 4294967296=m at *;refine db Tryz.func292 Tryz.ntmps292 ?_
 by_cases h:m > 2147483647
 ·have h':decide ((2147483647:Int) < m)=true:=by simpa using h
  rw [if_pos h];refine ae ?_;refine ab [] hp ?_;exact al
 ·have h':decide ((2147483647:Int) < m)=false:=by simpa using h
  rw [if_neg h];refine ae ?_;refine ab [] hp ?_;exact al
theorem x7 (k:Nat) (h:k<=57):[[GV.v (.int .u8 (k:Int))]]=[UInt8.ofNat k].map fun c=>[GV.v (.int .u8 (c.toNat:Int))]:=by
 have:(UInt8.ofNat k).toNat=k:=by simp;omega
 simp [this]
theorem Hm (n:Nat) (hn:n<=1099511627776):GF Tryz.prog 293 [.v (ii (n:Int))] [] (.v (sv (cD n))) []:=by
 induction n using Nat.strongRecOn with
 | _ n ih =>
 unfold cD;refine db Tryz.func293 Tryz.ntmps293 ?_
 by_cases h:n < 10
 ·have h':decide ((n:Int) < 10)=true:=by simpa using by omega
  have hw:=x7 (48+n) ag;rw [Int.natCast_add] at hw;rw [dif_pos h];refine ae ?_;refine bS ?_;exact av
 ·have h':decide ((n:Int) < 10)=false:=by simpa using by omega
  rw [dif_neg h];have hc:=ih (n / 10) ag ag;have hl:=oV (n / 10);have hw:=x7 (48+n % 10) ag;rw [Int.natCast_add] at hw;refine ae ?_;refine aI (.q 0 (.q 1 (aB 3 4 (.f 2 (.a 7 (aB 8 3 .nil)) 7 (.q 8 (.a 2 (.q 9 (.q 10 .nil)))))))) ?_;refine ar ?_;refine GO.fork ?_ ?_
  ·refine aE [] hc ?_;refine eA ?_;refine ar ?_;exact av
  ·refine eA ?_;refine ar ?_;refine aE [] hc ?_;exact av
end Go.Xg
namespace Go.Xg
open Go.RowKit Go.Xw Go.Proofs
open Go.Xp (Tok Nd T bh one levels Ar yU cD oV E S er aM wt eH qm dO bC)
open Go.Sp
attribute [local irreducible] GW GL GO YG GC GA aV aZ
theorem ed {nd:Nd} {l l':List T} {k v:Int} {s:ah} (h:er (.mk nd l)=.mk ⟨k,0,v,s,[]⟩ l'):nd.kind=k/\nd.n=v/\nd.s=s/\aM l=l':=by
 rw [er] at h
 injection h with h1 h2
 injection h1 with a b c d e
 exact ⟨a,c,d,h2⟩
theorem vV {l:List T} {x:T} (h:aM l=[x]):∃ t,l=[t]/\er t=x:=by
 match l,h with
 | [t],h=>rw [aM,aM] at h;injection h with h1;exact ⟨t,rfl,h1⟩
 | [],h=>rw [aM] at h;cases h
 | t::u::r,h=>rw [aM,aM] at h;injection h with h1 h2;cases h2
theorem B1 {l:List T} {x y:T} (h:aM l=[x,y]):∃ t u,l=[t,u]/\er t=x/\er u=y:=by
 match l,h with
 | t::r,h =>
  rw [aM] at h;injection h with h1 h2
  obtain ⟨u,rfl,h3⟩:=vV h2;exact ⟨t,u,rfl,h1,h3⟩
 | [],h=>rw [aM] at h;cases h
theorem Ys {l:List T} {x y z:T} (h:aM l=[x,y,z]):∃ t u w,l=[t,u,w]/\er t=x/\er u=y/\er w=z:=by
 match l,h with
 | t::r,h =>
  rw [aM] at h;injection h with h1 h2
  obtain ⟨u,w,rfl,h3,h4⟩:=B1 h2;exact ⟨t,u,w,rfl,h1,h3,h4⟩
 | [],h=>rw [aM] at h;cases h
theorem QC {a:E} (h:a.ok=true) {t:T} (ht:er t=a.tree):mR t.n.kind t.n.s=(a.lv:Int):=by
 obtain ⟨nd,l⟩:=t
 cases a with
 | bin s a b =>
  obtain ⟨h1,_,h2,_⟩:=ed ht;simp only [E.ok,Bool.and_eq_true] at h;have h9:=(Go.Xp.pz h.1.1).1;simp only [T.n,h1,h2,mR,if_pos,E.lv];unfold dO at h9 |-
  cases hf:levels.findIdx? (fun l=>l.contains s) with
  | none=>rw [hf] at h9;exact absurd h9 aJ
  | some i=>rfl
 | num n=>obtain ⟨h1,_⟩:=ed ht;simp only [T.n,h1,mR];rfl
 | name n=>obtain ⟨h1,_⟩:=ed ht;simp only [T.n,h1,mR];rfl
 | at_ s a=>obtain ⟨h1,_⟩:=ed ht;simp only [T.n,h1,mR];rfl
 | call s a=>obtain ⟨h1,_⟩:=ed ht;simp only [T.n,h1,mR];rfl
 | un s a=>obtain ⟨h1,_⟩:=ed ht;simp only [T.n,h1,mR];rfl
theorem qW {a:E} (h:a.ok=true) {t:T} (ht:er t=a.tree):GF Tryz.prog 277 [.agg (cT t)] [] (.v (ii (a.lv:Int))) []:=by
 have:=Km t;rw [QC h ht] at this;exact this
theorem CN (n:Int) (h:0<=n/\n<=2147483647):GF Tryz.prog 278 [.v (ii n)] [] (.v (sv (cD n.toNat))) []:=by
 have hw:=TN n
 have oJ:yU n=n:=by unfold yU;rw [show n % 4294967296=n by omega,if_neg ag]
 rw [oJ] at hw;have hd:=Hm n.toNat ag;rw [Int.toNat_of_nonneg h.1] at hd
 have h':decide (n < 0)=false:=by simpa using h.1
 refine ai Tryz.func278 Tryz.ntmps278 ?_;refine ab [] hw ?_;refine ab [] hd ?_;exact al
abbrev lim:Nat:=1000000000000
def rq (a:E):Prop:=∀ (t:T) (k:Nat),a.ok=true->er t=a.tree->wt a.tree<=lim->¬ a.lv < k->GF Tryz.prog 252 [.agg (cT t),.v (ii (k:Int))] [] (.v (sv a.txt)) []
def oz (a:E):Prop:=∀ (t:T) (k:Nat),a.ok=true->er t=a.tree->wt a.tree<=lim->GF Tryz.prog 252 [.agg (cT t),.v (ii (k:Int))] [] (.v (sv (qm a.lv k a.txt))) []
theorem rq.p {a:E} (C:rq a):oz a:=by
 intro t k ho ht hb;unfold qm
 by_cases h:a.lv < k
 ·rw [if_pos h]
  have h':decide ((a.lv:Int) < (k:Int))=true:=by simpa using h
  have hl:=(E.len a ho).1;have h0:=C t 0 ho ht hb ag;have Rf:=hb;unfold lim at Rf;generalize a.txt=x at *;refine ai Tryz.func252 Tryz.ntmps252 ?_;refine ab [] (qW ho ht) ?_;refine ab [] h0 ?_;exact al
 ·rw [if_neg h];exact C t k ho ht hb h
theorem ND (n:Int):rq (.num n):=by
 intro t k ho ht hb h
 have h':decide (((E.num n).lv:Int) < (k:Int))=false:=by simpa using h
 have hg:=qW ho ht;obtain ⟨⟨kk,aa,vv,ss,ks⟩,l⟩:=t;obtain ⟨h1,h2,h3,hl⟩:=ed ht;simp only at h1 h2 h3;subst h1 h2 h3;simp only [E.ok,Bool.and_eq_true] at ho;have hn:=CN vv ⟨of_decide_eq_true ho.1,of_decide_eq_true ho.2⟩;rw [E.txt];simp only [cT,T.n,T.kids] at hg |-;refine ai Tryz.func252 Tryz.ntmps252 ?_;refine ab [] hg ?_;refine ab [] hn ?_;exact al
theorem Ku (s:ah):rq (.name s):=by
 intro t k ho ht hb h
 have h':decide (((E.name s).lv:Int) < (k:Int))=false:=by simpa using h
 have hg:=qW ho ht;obtain ⟨⟨kk,aa,vv,ss,ks⟩,l⟩:=t;obtain ⟨h1,h2,h3,hl⟩:=ed ht;simp only at h1 h2 h3;subst h1 h2 h3;rw [E.txt];simp only [cT,T.n,T.kids] at hg |-;refine ai Tryz.func252 Tryz.ntmps252 ?_;refine ab [] hg ?_;exact al
theorem PZ (s:ah) (a:E) (C:oz a):rq (.at_ s a):=by
 intro t k ho ht hb h
 have h':decide (((E.at_ s a).lv:Int) < (k:Int))=false:=by simpa using h
 have hg:=qW ho ht;obtain ⟨⟨kk,aa,vv,ss,ks⟩,l⟩:=t;obtain ⟨h1,h2,h3,hl⟩:=ed ht;simp only at h1 h2 h3;subst h1 h2 h3;obtain ⟨x,rfl,hx⟩:=vV hl;simp only [E.ok,Bool.and_eq_true] at ho;rw [E.tree,wt] at hb;simp only [eH,lim] at hb;have hc:=C x 0 ho.2 hx (by unfold lim;omega);unfold qm at hc;rw [if_neg ag] at hc;have hle:=(E.len a ho.2).1;have hr:(aS [x])[0]?=some (cT x):=cV rfl;rw [E.txt];generalize a.txt=y at *;simp only [cT,T.n,T.kids] at hg |-;refine ai Tryz.func252 Tryz.ntmps252 ?_;refine ab [] hg ?_;refine aI (aB 0 8 (.a 8 (aB 9 3 .nil))) ?_;refine ar ?_;refine aE [] hc ?_;exact av
theorem P0 (s:ah) (a:E) (C:oz a):rq (.un s a):=by
 intro t k ho ht hb h
 have h':decide (((E.un s a).lv:Int) < (k:Int))=false:=by simpa using h
 have hg:=qW ho ht;obtain ⟨⟨kk,aa,vv,ss,ks⟩,l⟩:=t;obtain ⟨h1,h2,h3,hl⟩:=ed ht;simp only at h1 h2 h3;subst h1 h2 h3;obtain ⟨x,rfl,hx⟩:=vV hl;simp only [E.ok,Bool.and_eq_true] at ho;rw [E.tree,wt] at hb;simp only [eH,lim] at hb;have hc:=C x 9 ho.2 hx (by unfold lim;omega);have hle:=(E.len a ho.2).1;have zY:=Go.Xp.su a.lv 9 a.txt;have hr:(aS [x])[0]?=some (cT x):=cV rfl;rw [E.txt];generalize qm a.lv 9 a.txt=y at *;simp only [cT,T.n,T.kids] at hg |-;refine ai Tryz.func252 Tryz.ntmps252 ?_;refine ab [] hg ?_;refine aI (aB 0 8 (.a 8 (.q 9 (.a 10 (.q 11 (.q 12 .nil)))))) ?_;refine ar ?_;refine aE [] jD ?_;refine aE [] hc ?_;exact av
theorem NC (s:ah) (a b:E) (Ca:oz a) (Cb:oz b):rq (.bin s a b):=by
 intro t k ho ht hb h
 have h':decide (((E.bin s a b).lv:Int) < (k:Int))=false:=by simpa using h
 have hg:=qW ho ht;obtain ⟨⟨kk,aa,vv,ss,ks⟩,l⟩:=t;obtain ⟨h1,h2,h3,hl⟩:=ed ht;simp only at h1 h2 h3;subst h1 h2 h3;obtain ⟨x,y,rfl,hx,hy⟩:=B1 hl;simp only [E.ok,Bool.and_eq_true] at ho;rw [E.tree,wt] at hb;simp only [eH,lim] at hb;have UC:=Ca x (dO ss) ho.1.2 hx (by unfold lim;omega);have zg:=Cb y (dO ss+1) ho.2 hy (by unfold lim;omega);have Iy:=(Go.Xp.pz ho.1.1).1;have hle:=(E.len a ho.1.2).1;have zY:=Go.Xp.su a.lv (dO ss) a.txt;have Zi:=(E.len b ho.2).1;have aao:=Go.Xp.su b.lv (dO ss+1) b.txt;have hr:(aS [x,y])[0]?=some (cT x):=cV rfl;have dh:(aS [x,y])[1]?=some (cT y):=cV rfl;rw [E.txt];simp only [E.lv] at hg h';generalize qm a.lv (dO ss) a.txt=u at *;generalize qm b.lv (dO ss+1) b.txt=w at *;simp only [cT,T.n,T.kids] at hg |-;refine ai Tryz.func252 Tryz.ntmps252 ?_;refine ab [] hg ?_;refine ab [] hg ?_;refine aI (aB 0 5 (aB 7 3 (aB 12 6 (.a 5 (.q 6 (.q 10 (.q 11 (.a 18 (.q 19 (.q 20 .nil)))))))))) ?_;refine ar ?_;refine aE [] UC ?_;refine aE [] zg ?_;exact av
end Go.Xg
namespace Go.Xg
open Go.RowKit Go.Xw Go.Proofs
open Go.Xp (Tok Nd T bh one levels Ar cD E S er aM wt eH qm dO bC Bh we)
open Go.Sp
attribute [local irreducible] GW GL GO YG GC GA aV aZ
def JG (b:Bool) (a:E):Prop:=∀ t,er t=a.tree->GF Tryz.prog 218 [.agg (cT t),.v (.bool b)] [] (.v (sv (a.out b))) []
theorem Mk:∀ {ts:List T} {es:List E} (h:aM ts=E.trees es),ts.length=es.length/\∀ (k:Nat) t a,ts[k]?=some t->es[k]?=some a->er t=a.tree
 | [],[],_=>⟨rfl,fun k t a h=>by simp at h⟩
 | [],a::l,h=>by rw [aM,E.trees] at h;cases h
 | t::r,[],h=>by rw [aM,E.trees] at h;cases h
 | t::r,a::l,h=>by
  rw [aM,E.trees] at h
  injection h with h1 h2
  obtain ⟨h3,h4⟩:=Mk h2;refine ⟨by simp [h3],fun k t' a' ht ha=>?_⟩
  cases k with
  | zero=>cases ht;cases ha;exact h1
  | succ k=>exact h4 k t' a' (by simpa using ht) (by simpa using ha)
theorem Dr (b:Bool) (es:List E) (C:∀ a∈es,JG b a) (ts:List T) (tf:aM ts=E.trees es) (hb:(bC (es.map (E.out b))).length<=lim) (hn:es.length<=lim) :
  GF Tryz.prog 279 [.sl 6 (aS ts),.v (.bool b)] [] (.v (sv (bC (es.map (E.out b))))) []:=by
 obtain ⟨hlen,wV⟩:=Mk tf;unfold lim at hb hn;refine ai Tryz.func279 Tryz.ntmps279 ?_;refine GW.range (aS ts).length (fun k fr Γ=>∃ y,fr=[.U,.v (.bool b),.U,.U,.U,.v (sv y),.U,.U,.sl 6 (aS ts),.v (ii ((aS ts).length:Int)),.v (ii (k:Nat)),.U,.U,.U,.U,.U,.U,.U,.U,.U,.U,.U,.U,.U,.U,.U]/\Γ=[]/\y=bC ((es.map (E.out b)).take k)) ?_ (by rw [aU];omega) ?_ ?_ ?_
 ·exact ⟨_,_,Wk.aC aq,[],rfl,rfl,by simp [bC]⟩
 ·rintro k _ _ ⟨y,rfl,rfl,_⟩;exact dQ
 ·rintro k _ _ hk ⟨y,rfl,rfl,hy⟩
  have hk:k < es.length:=by rw [aU,hlen] at hk;exact hk
  have wZ:k < ts.length:=by omega
  have hx:es[k]?=some es[k]:=by simp [hk]
  have ht:ts[k]?=some ts[k]:=by simp [wZ]
  have he:=wV k _ _ ht hx;have hr:=cV ht;have hc:=C _ (mem_of_getElem? hx) _ he;have oF:=we (es.map (E.out b)) (k+1);have Zc:=we (es.map (E.out b)) k
  have j0:(es.map (E.out b)).take (k+1)=(es.map (E.out b)).take k++[es[k].out b]:=by
   rw [take_add_one,getElem?_map,hx];rfl
  rw [j0] at oF;generalize ts[k]=t at *;generalize es[k]=a at *;generalize a.out b=x at *
  by_cases h0:k=0
  ·subst h0
   have sU:decide ((0:Int) < ((0:Nat):Int))=false:=by decide
   have hj:bC ((es.map (E.out b)).take 0++[x])=[]++x:=by simp [bC]
   have M4:bC ((es.map (E.out b)).take 0)=[]:=by simp [bC]
   rw [M4] at hy;subst hy;rw [hj] at oF
   have oF:x.length<=(bC (es.map (E.out b))).length:=by simpa using oF
   refine ae ?_;refine ab [] hc ?_;exact ⟨rfl,rfl,_,_,(Wk.cut (n:=0) (Nat.le_of_ble_eq_true rfl) rfl).trans (Wk.aC aq),_,rfl,rfl,by rw [j0,hj]⟩
  ·have sU:decide ((0:Int) < (k:Int))=true:=by simpa using by omega
   have bP:(es.map (E.out b)).take k≠[]:=by
    intro h;rw [List.take_eq_nil_iff] at h
    rcases h with h | h
    ·exact h0 h
    ·rw [List.map_eq_nil_iff] at h;subst h;simp at hk
   have hj:=Bh bP x;rw [hj] at oF;rw [<-hy] at oF hj Zc;simp only [length_append,length_cons,length_nil] at oF;refine ae ?_;refine ab [] hc ?_;exact ⟨rfl,rfl,_,_,(Wk.cut (n:=0) (Nat.le_of_ble_eq_true rfl) rfl).trans (Wk.aC aq),_,rfl,rfl,by rw [j0,hj]⟩
 ·rintro _ _ ⟨y,rfl,rfl,hy⟩;have:(es.map (E.out b)).take (aS ts).length=es.map (E.out b):=take_of_length_le (by rw [aU,hlen];simp);rw [this] at hy;subst hy;exact av
theorem oz.out {a:E} (C:oz a) (ho:a.ok=true) (hb:wt a.tree<=lim):JG true a:=by
 intro t ht;have h0:=C t 0 ho ht hb;unfold qm at h0;rw [if_neg ag] at h0;show GF _ _ _ _ (.v (sv a.txt)) _;refine ai Tryz.func218 Tryz.ntmps218 ?_;refine ab [] h0 ?_;exact al
theorem CI:∀ l:List E,l.length<=eH (E.trees l)
 | []=>Nat.zero_le _
 | a::l=>by
  have:=CI l;rw [E.trees,eH,length_cons]
  have:1<=wt a.tree:=by cases a <;> (rw [E.tree,wt];omega)
  omega
theorem CJ:∀ {l:List E} {a:E},a∈l->wt a.tree<=eH (E.trees l)
 | [],_,h=>by cases h
 | b::l,a,h=>by
  rw [E.trees,eH]
  rcases List.mem_cons.1 h with rfl | h
  ·omega
  ·have:=CJ h;omega
theorem Ct:∀ {l:List E} {a:E},E.cP l=true->a∈l->a.ok=true
 | [],_,_,h=>by cases h
 | b::l,a,ho,h=>by
  simp only [E.cP,Bool.and_eq_true] at ho
  rcases List.mem_cons.1 h with rfl | h
  ·exact ho.1
  ·exact Ct ho.2 h
theorem Ks (s:ah) (es:List E) (C:∀ a∈es,oz a):rq (.call s es):=by
 intro t k ho ht hb h
 have h':decide (((E.call s es).lv:Int) < (k:Int))=false:=by simpa using h
 have hg:=qW ho ht;obtain ⟨⟨kk,aa,vv,ss,ks⟩,l⟩:=t;obtain ⟨h1,h2,h3,hl⟩:=ed ht;simp only at h1 h2 h3;subst h1 h2 h3;simp only [E.ok,Bool.and_eq_true] at ho;rw [E.tree,wt] at hb;have hle:=(E.lens es ho.2).1;have hn:=CI es
 have Fm:E.cM es=es.map (E.out true):=by rw [E.QJ];rfl
 have hj:=Dr true es (fun a ha=>(C a ha).out (Ct ho.2 ha) (by have:=CJ ha;omega)) l hl (by rw [<-Fm];omega) ag;rw [<-Fm] at hj;unfold lim at hb;simp only at hb;rw [E.txt];generalize bC (E.cM es)=y at *;simp only [cT,T.n,T.kids] at hg |-;refine ai Tryz.func252 Tryz.ntmps252 ?_;refine ab [] hg ?_;refine aI (aB 0 6 (.a 6 (aB 7 3 .nil))) ?_;refine ar ?_;refine aE [] hj ?_;exact av
mutual
theorem vk:∀ a:E,oz a
 | .num n=>(ND n).p
 | .name s=>(Ku s).p
 | .at_ s a=>(PZ s a (vk a)).p
 | .call s l=>(Ks s l (IU l)).p
 | .un s a=>(P0 s a (vk a)).p
 | .bin s a b=>(NC s a b (vk a) (vk b)).p
theorem IU:∀ l:List E,∀ a∈l,oz a
 | []=>fun a h=>by cases h
 | b::l=>fun a h=>by
  rcases List.mem_cons.1 h with h | h
  ·rw [h];exact vk b
  ·exact IU l a h
end
def lW (a:E):Prop:=∀ (t:T),a.ok=true->er t=a.tree->wt a.tree<=lim->GF Tryz.prog 253 [.agg (cT t)] [] (.v (sv a.full)) []
theorem lW.out {a:E} (C:lW a) (ho:a.ok=true) (hb:wt a.tree<=lim):JG false a:=by
 intro t ht;have h0:=C t ho ht hb;show GF _ _ _ _ (.v (sv a.full)) _;refine ai Tryz.func218 Tryz.ntmps218 ?_;refine ab [] h0 ?_;exact al
theorem Pq (n:Int):lW (.num n):=by
 intro t ho ht hb;obtain ⟨⟨kk,aa,vv,ss,ks⟩,l⟩:=t;obtain ⟨h1,h2,h3,hl⟩:=ed ht;simp only at h1 h2 h3;subst h1 h2 h3;simp only [E.ok,Bool.and_eq_true] at ho;have hn:=CN vv ⟨of_decide_eq_true ho.1,of_decide_eq_true ho.2⟩;rw [E.full];simp only [cT,T.n,T.kids];refine ai Tryz.func253 Tryz.ntmps253 ?_;refine ab [] hn ?_;exact al
theorem ME (s:ah):lW (.name s):=by
 intro t ho ht hb;obtain ⟨⟨kk,aa,vv,ss,ks⟩,l⟩:=t;obtain ⟨h1,h2,h3,hl⟩:=ed ht;simp only at h1 h2 h3;subst h1 h2 h3;rw [E.full];simp only [cT,T.n,T.kids];refine ai Tryz.func253 Tryz.ntmps253 ?_;exact al
theorem SE (s:ah) (a:E) (C:lW a):lW (.at_ s a):=by
 intro t ho ht hb;obtain ⟨⟨kk,aa,vv,ss,ks⟩,l⟩:=t;obtain ⟨h1,h2,h3,hl⟩:=ed ht;simp only at h1 h2 h3;subst h1 h2 h3;obtain ⟨x,rfl,hx⟩:=vV hl;simp only [E.ok,Bool.and_eq_true] at ho;rw [E.tree,wt] at hb;simp only [eH,lim] at hb;have hc:=C x ho.2 hx (by unfold lim;omega);have hle:=(E.len a ho.2).2;have hr:(aS [x])[0]?=some (cT x):=cV rfl;rw [E.full];generalize a.full=y at *;simp only [cT,T.n,T.kids] at |-;refine ai Tryz.func253 Tryz.ntmps253 ?_;refine aI (aB 0 8 (.a 8 (aB 9 3 .nil))) ?_;refine ar ?_;refine aE [] hc ?_;exact av
theorem MD (s:ah) (es:List E) (C:∀ a∈es,lW a):lW (.call s es):=by
 intro t ho ht hb;obtain ⟨⟨kk,aa,vv,ss,ks⟩,l⟩:=t;obtain ⟨h1,h2,h3,hl⟩:=ed ht;simp only at h1 h2 h3;subst h1 h2 h3;simp only [E.ok,Bool.and_eq_true] at ho;rw [E.tree,wt] at hb;have hle:=(E.lens es ho.2).2;have hn:=CI es
 have Fm:E.si es=es.map (E.out false):=by rw [E.MF];rfl
 have hj:=Dr false es (fun a ha=>(C a ha).out (Ct ho.2 ha) (by have:=CJ ha;omega)) l hl (by rw [<-Fm];omega) ag;rw [<-Fm] at hj;unfold lim at hb;simp only at hb;rw [E.full];generalize bC (E.si es)=y at *;simp only [cT,T.n,T.kids] at |-;refine ai Tryz.func253 Tryz.ntmps253 ?_;refine aI (aB 0 6 (.a 6 (aB 7 3 .nil))) ?_;refine ar ?_;refine aE [] hj ?_;exact av
theorem SG (s:ah) (a:E) (C:lW a):lW (.un s a):=by
 intro t ho ht hb;obtain ⟨⟨kk,aa,vv,ss,ks⟩,l⟩:=t;obtain ⟨h1,h2,h3,hl⟩:=ed ht;simp only at h1 h2 h3;subst h1 h2 h3;obtain ⟨x,rfl,hx⟩:=vV hl;simp only [E.ok,Bool.and_eq_true] at ho;rw [E.tree,wt] at hb;simp only [eH,lim] at hb;have hc:=C x ho.2 hx (by unfold lim;omega);have hle:=(E.len a ho.2).2;have hr:(aS [x])[0]?=some (cT x):=cV rfl;rw [E.full];generalize a.full=y at *;simp only [cT,T.n,T.kids] at |-;refine ai Tryz.func253 Tryz.ntmps253 ?_;refine aI (aB 0 8 (.a 8 (aB 9 3 .nil))) ?_;refine ar ?_;refine aE [] hc ?_;exact av
theorem Pp (s:ah) (a b:E) (Ca:lW a) (Cb:lW b):lW (.bin s a b):=by
 intro t ho ht hb;obtain ⟨⟨kk,aa,vv,ss,ks⟩,l⟩:=t;obtain ⟨h1,h2,h3,hl⟩:=ed ht;simp only at h1 h2 h3;subst h1 h2 h3;obtain ⟨x,y,rfl,hx,hy⟩:=B1 hl;simp only [E.ok,Bool.and_eq_true] at ho;rw [E.tree,wt] at hb;simp only [eH,lim] at hb;have UC:=Ca x ho.1.2 hx (by unfold lim;omega);have zg:=Cb y ho.2 hy (by unfold lim;omega);have hle:=(E.len a ho.1.2).2;have Zi:=(E.len b ho.2).2;have hr:(aS [x,y])[0]?=some (cT x):=cV rfl;have dh:(aS [x,y])[1]?=some (cT y):=cV rfl;rw [E.full];generalize a.full=u at *;generalize b.full=w at *;simp only [cT,T.n,T.kids] at |-;refine ai Tryz.func253 Tryz.ntmps253 ?_;refine aI (aB 0 4 (aB 7 3 (aB 12 4 (.a 4 (.q 5 (.q 6 (.q 10 (.q 11 (.a 16 (aB 17 3 .nil)))))))))) ?_;refine ar ?_;refine aE [] UC ?_;refine aE [] zg ?_;exact av
mutual
theorem yx:∀ a:E,lW a
 | .num n=>Pq n
 | .name s=>ME s
 | .at_ s a=>SE s a (yx a)
 | .call s l=>MD s l (MC l)
 | .un s a=>SG s a (yx a)
 | .bin s a b=>Pp s a b (yx a) (yx b)
theorem MC:∀ l:List E,∀ a∈l,lW a
 | []=>fun a h=>by cases h
 | b::l=>fun a h=>by
  rcases List.mem_cons.1 h with h | h
  ·rw [h];exact yx b
  ·exact MC l a h
end
theorem pY (b:Bool) {a:E} (ho:a.ok=true) (hb:wt a.tree<=lim):JG b a:=by
 cases b with
 | true=>exact (vk a).out ho hb
 | false=>exact (yx a).out ho hb
theorem iY (b:Bool) (a:E) (ho:a.ok=true):(a.out b).length+4<=wt a.tree:=by
 have:=E.len a ho
 cases b with
 | true=>exact this.1
 | false=>exact this.2
end Go.Xg
namespace Go.Xg
open Go.RowKit Go.Xw Go.Proofs
open Go.Xp (Tok Nd T bh one levels Ar cD E S er aM wt eH bG eW)
open Go.Sp
attribute [local irreducible] GW GL GO YG GC GA aV aZ
theorem Js (x:E->Go.Xp.ah):∀ (l:List S) (acc:Go.Xp.ah),acc.length<=(S.cM x acc l).length
 | [],acc=>by rw [S.cM];omega
 | a::l,acc=>by
  rw [S.cM];have:=Js x l (acc++a.txt x++[32]);simp only [length_append,length_cons,length_nil] at this;omega
def nr (b:Bool) (s:S):Prop:=∀ t,s.ok=true->er t=s.tree->wt s.tree<=lim->GF Tryz.prog 190 [.agg (cT t),.v (.bool b)] [] (.v (sv (s.txt (E.out b)))) []
def uM (b:Bool) (l:List S):Prop:=∀ t,S.cP l=true->er t=bG l->wt (bG l)<=lim->GF Tryz.prog 190 [.agg (cT t),.v (.bool b)] [] (.v (sv (eW (E.out b) l))) []
theorem Je:∀ {ts:List T} {es:List S} (h:aM ts=S.trees es),ts.length=es.length/\∀ (k:Nat) t a,ts[k]?=some t->es[k]?=some a->er t=a.tree
 | [],[],_=>⟨rfl,fun k t a h=>by simp at h⟩
 | [],a::l,h=>by rw [aM,S.trees] at h;cases h
 | t::r,[],h=>by rw [aM,S.trees] at h;cases h
 | t::r,a::l,h=>by
  rw [aM,S.trees] at h
  injection h with h1 h2
  obtain ⟨h3,h4⟩:=Je h2;refine ⟨by simp [h3],fun k t' a' ht ha=>?_⟩
  cases k with
  | zero=>cases ht;cases ha;exact h1
  | succ k=>exact h4 k t' a' (by simpa using ht) (by simpa using ha)
theorem GB:∀ {l:List S} {a:S},a∈l->wt a.tree<=eH (S.trees l)
 | [],_,h=>by cases h
 | b::l,a,h=>by
  rw [S.trees,eH]
  rcases List.mem_cons.1 h with rfl | h
  ·omega
  ·have:=GB h;omega
theorem Gz:∀ l:List S,l.length<=eH (S.trees l)
 | []=>Nat.zero_le _
 | a::l=>by
  have:=Gz l;rw [S.trees,eH,length_cons]
  have:1<=wt a.tree:=by cases a <;> (rw [S.tree,wt];omega)
  omega
theorem Gs:∀ {l:List S} {a:S},S.cP l=true->a∈l->a.ok=true
 | [],_,_,h=>by cases h
 | b::l,a,ho,h=>by
  simp only [S.cP,Bool.and_eq_true] at ho
  rcases List.mem_cons.1 h with rfl | h
  ·exact ho.1
  ·exact Gs ho.2 h
theorem OR (b:Bool) (s:Go.Xp.ah) (a:E):nr b (.var s a):=by
 intro t ho ht hb;obtain ⟨⟨kk,aa,vv,ss,ks⟩,l⟩:=t;obtain ⟨h1,h2,h3,hl⟩:=ed ht;simp only at h1 h2 h3;subst h1 h2 h3;obtain ⟨x0,rfl,po⟩:=vV hl;simp only [S.ok,Bool.and_eq_true] at ho;rw [S.tree,wt] at hb;simp only [eH,lim] at hb;have pP:=pY b (a:=a) ho.2 (by unfold lim;omega) x0 po;have tW:=iY b a ho.2;have oI:(aS [x0])[0]?=some (cT x0):=cV rfl;rw [S.txt];generalize a.out b=y0 at *;simp only [cT,T.n,T.kids];refine ai Tryz.func190 Tryz.ntmps190 ?_;refine aI (aB 0 10 (.a 10 (aB 11 3 .nil))) ?_;refine ar ?_;refine aE [] pP ?_;exact av
theorem OO (b:Bool) (s:Go.Xp.ah) (a:E):nr b (.set s a):=by
 intro t ho ht hb;obtain ⟨⟨kk,aa,vv,ss,ks⟩,l⟩:=t;obtain ⟨h1,h2,h3,hl⟩:=ed ht;simp only at h1 h2 h3;subst h1 h2 h3;obtain ⟨x0,rfl,po⟩:=vV hl;simp only [S.ok,Bool.and_eq_true] at ho;rw [S.tree,wt] at hb;simp only [eH,lim] at hb;have pP:=pY b (a:=a) ho.2 (by unfold lim;omega) x0 po;have tW:=iY b a ho.2;have oI:(aS [x0])[0]?=some (cT x0):=cV rfl;rw [S.txt];generalize a.out b=y0 at *;simp only [cT,T.n,T.kids];refine ai Tryz.func190 Tryz.ntmps190 ?_;refine aI (aB 0 9 (.a 9 (aB 10 3 .nil))) ?_;refine ar ?_;refine aE [] pP ?_;exact av
theorem OM (b:Bool) (s:Go.Xp.ah) (a:E) (c:E):nr b (.put s a c):=by
 intro t ho ht hb;obtain ⟨⟨kk,aa,vv,ss,ks⟩,l⟩:=t;obtain ⟨h1,h2,h3,hl⟩:=ed ht;simp only at h1 h2 h3;subst h1 h2 h3;obtain ⟨x0,x1,rfl,po,vg⟩:=B1 hl;simp only [S.ok,Bool.and_eq_true] at ho;rw [S.tree,wt] at hb;simp only [eH,lim] at hb;have pP:=pY b (a:=a) ho.2.1 (by unfold lim;omega) x0 po;have tW:=iY b a ho.2.1;have oI:(aS [x0,x1])[0]?=some (cT x0):=cV rfl;have sV:=pY b (a:=c) ho.2.2 (by unfold lim;omega) x1 vg;have eT:=iY b c ho.2.2;have fY:(aS [x0,x1])[1]?=some (cT x1):=cV rfl;rw [S.txt];generalize a.out b=y0 at *;generalize c.out b=y1 at *;simp only [cT,T.n,T.kids];refine ai Tryz.func190 Tryz.ntmps190 ?_;refine aI (aB 0 9 (aB 12 5 (.a 9 (.q 10 (.q 11 (.a 17 (aB 18 3 .nil))))))) ?_;refine ar ?_;refine aE [] pP ?_;refine aE [] sV ?_;exact av
theorem OK (b:Bool) (c:E) (p:List S) (Cp:uM b p):nr b (.if1 c p):=by
 intro t ho ht hb;obtain ⟨⟨kk,aa,vv,ss,ks⟩,l⟩:=t;obtain ⟨h1,h2,h3,hl⟩:=ed ht;simp only at h1 h2 h3;subst h1 h2 h3;obtain ⟨x0,x1,rfl,po,vg⟩:=B1 hl;simp only [S.ok,Bool.and_eq_true] at ho;rw [S.tree,wt] at hb;simp only [eH,lim] at hb;have pP:=pY b (a:=c) ho.1 (by unfold lim;omega) x0 po;have tW:=iY b c ho.1;have oI:(aS [x0,x1])[0]?=some (cT x0):=cV rfl;have sV:=Cp x1 ho.2 vg (by unfold lim bG;omega);have eT:=Go.Xp.sr (E.out b) (iY b) ho.2;rw [bG] at eT;have fY:(aS [x0,x1])[1]?=some (cT x1):=cV rfl;rw [S.txt];generalize c.out b=y0 at *
 change GF _ _ _ _ (.v (sv _)) _ at sV
 unfold eW at sV eT;generalize S.cM (E.out b) [123,32] p++[125]=y1 at *;simp only [cT,T.n,T.kids];refine ai Tryz.func190 Tryz.ntmps190 ?_;refine aI (aB 0 5 (aB 8 5 (.a 5 (.q 6 (.q 7 (.a 13 (.q 14 (.q 15 .nil)))))))) ?_;refine ar ?_;refine aE [] pP ?_;refine aE [] sV ?_;exact av
theorem OL (b:Bool) (c:E) (p:List S) (q:List S) (Cp:uM b p) (Cq:uM b q):nr b (.if2 c p q):=by
 intro t ho ht hb;obtain ⟨⟨kk,aa,vv,ss,ks⟩,l⟩:=t;obtain ⟨h1,h2,h3,hl⟩:=ed ht;simp only at h1 h2 h3;subst h1 h2 h3;obtain ⟨x0,x1,x2,rfl,po,vg,IF⟩:=Ys hl;simp only [S.ok,Bool.and_eq_true] at ho;rw [S.tree,wt] at hb;simp only [eH,lim] at hb;have pP:=pY b (a:=c) ho.1 (by unfold lim;omega) x0 po;have tW:=iY b c ho.1;have oI:(aS [x0,x1,x2])[0]?=some (cT x0):=cV rfl;have sV:=Cp x1 ho.2.1 vg (by unfold lim bG;omega);have eT:=Go.Xp.sr (E.out b) (iY b) ho.2.1;rw [bG] at eT;have fY:(aS [x0,x1,x2])[1]?=some (cT x1):=cV rfl;have jK:=Cq x2 ho.2.2 IF (by unfold lim bG;omega);have jB:=Go.Xp.sr (E.out b) (iY b) ho.2.2;rw [bG] at jB;have dh:(aS [x0,x1,x2])[2]?=some (cT x2):=cV rfl;rw [S.txt];generalize c.out b=y0 at *
 change GF _ _ _ _ (.v (sv _)) _ at sV
 unfold eW at sV eT;generalize S.cM (E.out b) [123,32] p++[125]=y1 at *
 change GF _ _ _ _ (.v (sv _)) _ at jK
 unfold eW at jK jB;generalize S.cM (E.out b) [123,32] q++[125]=y2 at *;simp only [cT,T.n,T.kids];refine ai Tryz.func190 Tryz.ntmps190 ?_;refine aI (aB 0 5 (aB 8 5 (.a 5 (.q 6 (.q 7 (.a 13 (.q 14 (.q 15 .nil)))))))) ?_;refine ar ?_;refine aE [] pP ?_;refine aE [] sV ?_;refine ae ?_;refine ab [] jK ?_;exact al
theorem HN (b:Bool) (c:E) (p:List S) (Cp:uM b p):nr b (.while_ c p):=by
 intro t ho ht hb;obtain ⟨⟨kk,aa,vv,ss,ks⟩,l⟩:=t;obtain ⟨h1,h2,h3,hl⟩:=ed ht;simp only at h1 h2 h3;subst h1 h2 h3;obtain ⟨x0,x1,rfl,po,vg⟩:=B1 hl;simp only [S.ok,Bool.and_eq_true] at ho;rw [S.tree,wt] at hb;simp only [eH,lim] at hb;have pP:=pY b (a:=c) ho.1 (by unfold lim;omega) x0 po;have tW:=iY b c ho.1;have oI:(aS [x0,x1])[0]?=some (cT x0):=cV rfl;have sV:=Cp x1 ho.2 vg (by unfold lim bG;omega);have eT:=Go.Xp.sr (E.out b) (iY b) ho.2;rw [bG] at eT;have fY:(aS [x0,x1])[1]?=some (cT x1):=cV rfl;rw [S.txt];generalize c.out b=y0 at *
 change GF _ _ _ _ (.v (sv _)) _ at sV
 unfold eW at sV eT;generalize S.cM (E.out b) [123,32] p++[125]=y1 at *;simp only [cT,T.n,T.kids];refine ai Tryz.func190 Tryz.ntmps190 ?_;refine aI (aB 0 5 (aB 8 5 (.a 5 (.q 6 (.q 7 (.a 13 (.q 14 (.q 15 .nil)))))))) ?_;refine ar ?_;refine aE [] pP ?_;refine aE [] sV ?_;exact av
theorem ON (b:Bool) (a:E):nr b (.ret a):=by
 intro t ho ht hb;obtain ⟨⟨kk,aa,vv,ss,ks⟩,l⟩:=t;obtain ⟨h1,h2,h3,hl⟩:=ed ht;simp only at h1 h2 h3;subst h1 h2 h3;obtain ⟨x0,rfl,po⟩:=vV hl;simp only [S.ok] at ho;rw [S.tree,wt] at hb;simp only [eH,lim] at hb;have pP:=pY b (a:=a) ho (by unfold lim;omega) x0 po;have tW:=iY b a ho;have oI:(aS [x0])[0]?=some (cT x0):=cV rfl;rw [S.txt];generalize a.out b=y0 at *;simp only [cT,T.n,T.kids];refine ai Tryz.func190 Tryz.ntmps190 ?_;refine ab [] pP ?_;exact al
theorem QS (b:Bool) (a:E):nr b (.do_ a):=by
 intro t ho ht hb;obtain ⟨⟨kk,aa,vv,ss,ks⟩,l⟩:=t;obtain ⟨h1,h2,h3,hl⟩:=ed ht;simp only at h1 h2 h3;subst h1 h2 h3;obtain ⟨x0,rfl,po⟩:=vV hl;simp only [S.ok] at ho;rw [S.tree,wt] at hb;simp only [eH,lim] at hb;have pP:=pY b (a:=a) ho (by unfold lim;omega) x0 po;have tW:=iY b a ho;have oI:(aS [x0])[0]?=some (cT x0):=cV rfl;rw [S.txt];generalize a.out b=y0 at *;simp only [cT,T.n,T.kids];refine ai Tryz.func190 Tryz.ntmps190 ?_;refine ab [] pP ?_;exact al
theorem rQ (b:Bool) (es:List S) (C:∀ a∈es,nr b a):uM b es:=by
 intro t ho ht hb;obtain ⟨⟨kk,aa,vv,ss,ks⟩,l⟩:=t;obtain ⟨h1,h2,h3,hl⟩:=ed ht;simp only at h1 h2 h3;subst h1 h2 h3;obtain ⟨hlen,wV⟩:=Je hl;have nf:=Go.Xp.sr (E.out b) (iY b) ho;rw [bG,wt] at hb;rw [bG,wt] at nf;have hn:=Gz es;unfold eW at nf |-;unfold lim at hb;simp only [length_append,length_cons,length_nil] at hb nf;simp only [cT,T.n,T.kids];refine ai Tryz.func190 Tryz.ntmps190 ?_;refine GW.range (aS l).length (fun k fr Γ=>∃ y,fr=[.U,.v (.bool b),.loc 0 0,.U,.U,.U,.v (sv y),.U,.U,.U,.U,.U,.U,.U,.U,.U,.U,.U,.U,.U,.U,.U,.U,.U,.U,.U,.U,.U,.U,.U,.U,.U,.U,.U,.U,.U,.U,.U,.U,.U,.U,.U,.U,.U,.U,.U,.U,.U,.U,.U,.U,.U,.U,.U,.U,.U,.U,.U,.U,.U,.U,.U,.U,.U,.U,.U,.U,.U,.U,.U,.U,.U,.U,.U,.U,.U,.U,.U,.U,.U,.U,.U,.U,.U,.U,.U,.U,.U,.U,.U,.U,.U,.U,.U,.U,.U,.U,.U,.U,.U,.U,.U,.U,.U,.U,.U,.U,.U,.U,.U,.U,.U,.U,.U,.U,.U,.U,.U,.U,.U,.U,.U,.U,.U,.U,.U,.U,.U,.U,.U,.U,.sl 6 (aS l),.v (ii ((aS l).length:Int)),.v (ii (k:Nat)),.U,.U,.U,.U,.U,.U,.U,.U,.U,.U,.U,.U]/\Γ=[.box 94 [.v (ii 14),.v (ii aa),.v (ii 0),.v (sv []),ints ks,.sl 6 (aS l)]]/\S.cM (E.out b) y (es.drop k)=S.cM (E.out b) [123,32] es) ?_ (by rw [aU];omega) ?_ ?_ ?_
 ·exact ⟨_,_,Wk.aC aq,_,rfl,rfl,rfl⟩
 ·rintro k _ _ ⟨y,rfl,rfl,_⟩;exact dQ
 ·rintro k _ _ hk ⟨y,rfl,rfl,hy⟩
  have hk:k < es.length:=by rw [aU,hlen] at hk;exact hk
  have wZ:k < l.length:=by omega
  have hx:es[k]?=some es[k]:=by simp [hk]
  have j0:l[k]?=some l[k]:=by simp [wZ]
  have hr:=cV j0;rw [drop_eq_getElem_cons hk,S.cM] at hy;have hm:=mem_of_getElem? hx;have hc:=C _ hm _ (Gs ho hm) (wV k _ _ j0 hx) (by have:=GB hm;unfold lim;omega);generalize l[k]=t at *;generalize hgx:es[k].txt (E.out b)=x at *;have lx:=Js (E.out b) (es.drop (k+1)) (y++x++[32]);rw [hy] at lx;simp only [length_append,length_cons,length_nil] at lx;refine ae ?_;refine ab [] hc ?_;exact ⟨rfl,rfl,_,_,(Wk.cut (n:=1) (Nat.le_of_ble_eq_true rfl) rfl).trans (Wk.aC aq),_,rfl,rfl,hy⟩
 ·rintro _ _ ⟨y,rfl,rfl,hy⟩;rw [List.drop_of_length_le (by rw [aU,hlen];exact Nat.le_refl _),S.cM] at hy;subst hy;exact av
mutual
theorem Wa (b:Bool):∀ s:S,nr b s
 | .set s a=>OO b s a
 | .put s a c=>OM b s a c
 | .if1 c p=>OK b c p (rQ b p (sF b p))
 | .if2 c p q=>OL b c p q (rQ b p (sF b p)) (rQ b q (sF b q))
 | .while_ c p=>HN b c p (rQ b p (sF b p))
 | .ret a=>ON b a
 | .do_ a=>QS b a
 | .var s a=>OR b s a
theorem sF (b:Bool):∀ l:List S,∀ a∈l,nr b a
 | []=>fun a h=>by cases h
 | c::l=>fun a h=>by
  rcases List.mem_cons.1 h with h | h
  ·rw [h];exact Wa b c
  ·exact sF b l a h
end
theorem V9 (b:Bool) (l:List S):uM b l:=rQ b l (sF b l)
end Go.Xg
namespace Go.Xg
open Go.RowKit Go.Xw Go.Proofs
open Go.Xp (Tok Nd T bh one levels Ar cD E S er aM wt eH bG eW ew)
open Go.Sp
attribute [local irreducible] GW GL GO YG GC GA aV aZ
theorem Nv (p:Src) (hp:BB p) (ls:List (List S)) (hb:Ek p ls):GF Tryz.prog 152 [.agg (ax p)] [] (.v (.bool (ls.all fun l=>ew l 1))) []:=by
 refine ai Tryz.func152 Tryz.ntmps152 ?_;refine GW.range (p.fns.map aw).length (fun k fr Γ=>fr=[.U,.loc 0 0,.U,.U,.U,.U,.U,.U,.sl 3 (p.fns.map aw),.v (ii ((p.fns.map aw).length:Int)),.v (ii (k:Nat)),.U,.U,.U,.U,.U,.U,.U,.U,.U,.U,.U,.U,.U,.U,.U,.U,.U,.U,.U,.U,.U,.U,.U,.U,.U,.U,.U,.U,.U,.U,.U,.U,.U,.U]/\Γ=[.box 34 (ax p)]/\((ls.take k).all fun l=>ew l 1)=true) ?_ (by simpa using by have:=hp.fns.1;omega) ?_ ?_ ?_
 ·exact jz
 ·exact gy
 ·rintro k _ _ hk ⟨rfl,rfl,hf⟩
  have hk:k < p.fns.length:=by simpa using hk
  have eS:k < ls.length:=by rw [hb.len];exact hk
  have hx:p.fns[k]?=some p.fns[k]:=by simp [hk]
  have zq:ls[k]?=some ls[k]:=by simp [eS]
  have hr:=Bu hx;obtain ⟨h0,ho,hw,t,pU,her⟩:=hb.at_ k _ _ hx zq;have hs:=Eh p (fun n hn=>(hp.nodes.2 n hn).2) _ _ _ pU;rw [Int.toNat_of_nonneg h0] at hs;have FD:=V9 true ls[k] t ho her (by unfold lim;omega);obtain ⟨ts,t2,q,f,h1,h2,h3,h4,h5,h6,h7⟩:=Se ho hw;have j0:=Nw _ ts ag h1;have hmp:RS.ok ⟨ts,0,(eW E.txt ls[k]).length,0,0⟩:=⟨Nat.zero_le _,by simp only;omega⟩;have dk:=(sds f).block 1 _ t2 q hmp ag h5
  have kC:(E.out true)=E.txt:=by funext a;rfl
  rw [kC] at FD;generalize eW E.txt ls[k]=tx at *;generalize uC:ew ls[k] 1=fit at *;generalize p.fns[k]=x at *
  rcases h7 with ⟨h7,h8,rfl⟩ | ⟨h7,rfl⟩
  ·have sV:(q.code != 0)=false:=by simpa using h7
   have jK:((q.i:Int) != ((q.l.map da).length:Int))=false:=by rw [length_map,h6];simp [h8]
   refine ae ?_;refine ab [] hs ?_;refine ab [] FD ?_;refine ab [] j0 ?_;refine ab [2] dk ?_;refine aI (aB 0 17 .nil) ?_;refine bf ?_;exact ⟨rfl,rfl,_,_,(Wk.cut (n:=1) (Nat.le_of_ble_eq_true rfl) rfl).trans (Wk.aC aq),rfl,rfl,sM zq hf uC⟩
  ·have sV:(q.code != 0)=true:=by simpa using h7
   have aQ:(ls.all fun l=>ew l 1)=false:=uO zq uC;rw [aQ];refine ae ?_;refine ab [] hs ?_;refine ab [] FD ?_;refine ab [] j0 ?_;refine ab [2] dk ?_;refine aI (aB 0 17 .nil) ?_;refine ar ?_;exact av
 ·rintro _ _ ⟨rfl,rfl,hf⟩;rw [take_of_length_le (by rw [length_map,hb.len];exact Nat.le_refl _)] at hf;rw [hf];exact av
theorem Lu (p:Src) (hp:BB p) (h:nZ p=some false):GF Tryz.prog 129 [.agg (ax p)] [] (.v (.bool false)) []:=by
 have hs:=Bi p hp false h;refine ai Tryz.func129 Tryz.ntmps129 ?_;refine ab [] hs ?_;exact al
theorem Lx (p:Src) (hp:BB p) (h:nZ p=some true) (ls:List (List S)) (hb:Ek p ls):GF Tryz.prog 129 [.agg (ax p)] [] (.v (.bool (ls.all fun l=>ew l 1))) []:=by
 have hs:=Bi p hp true h;have hf:=Nv p hp ls hb;generalize (ls.all fun l=>ew l 1)=b at *;refine ai Tryz.func129 Tryz.ntmps129 ?_;refine ab [] hs ?_;refine ab [] hf ?_;exact al
end Go.Xg
namespace Go.Xg
open Go.RowKit Go.Xw Go.Proofs
open Go.Xp (Tok Nd T levels Ar E S er wt bG eW ew)
open Go.Sp
open Go.Im
attribute [local irreducible] GW GL GO YG GC GA aV aZ
theorem Tn {p:Src} (hw:ej p<=1048576):BB p:=by
 obtain ⟨⟨a1,a2⟩,⟨b1,b2⟩,⟨c1,c2⟩,⟨d1,d2⟩⟩:=gS p;exact ⟨⟨by omega,fun s hs=>by have:=a2 s hs;omega⟩,⟨by omega,fun s hs=>by have:=b2 s hs;omega⟩,⟨by omega,fun f hf=>by obtain ⟨e1,e2,e3⟩:=c2 f hf;exact ⟨by omega,by omega,fun s hs=>by have:=e3 s hs;omega⟩⟩,⟨by omega,fun n hn=>by obtain ⟨e1,e2⟩:=d2 n hn;exact ⟨by omega,by omega⟩⟩⟩
theorem Lv (p:Src) (hw:ej p<=1048576):GF Tryz.prog 129 [.agg (ax p)] [] (.v (.bool (fI p))) []:=by
 have iU:=Tn hw;obtain ⟨b,hb⟩:=Ld p
 cases b with
 | false=>rw [Yw hb];exact Lu p iU hb
 | true =>
  obtain ⟨l,hl⟩:=Tp hb;obtain ⟨ls,hf⟩:=hl.JX;rw [Yx hl hf];exact Lx p iU hb ls (LU hl hf hw)
end Go.Xg
namespace Go.Xg
open Go.RowKit Go.Xw Go.Proofs
open Go.Xp (Tok Nd T)
open Go.Sp (Src)
open Go.Im (oo qh tr jj cY fQ uE)
attribute [local irreducible] GW GL GO YG GC GA aV aZ
mutual
def tT:T->GV
 | .mk n l=>.box [.v (ii n.kind),.v (ii n.at_),.v (ii n.n),.v (sv n.s),ints n.kids,.sl 1 (cg l)] 0
def cg:List T->List (List GV)
 | []=>[]
 | t::r=>[tT t]::cg r
end
abbrev uT (t:T):GV:=.box [.v (ii t.n.kind),.v (ii t.n.at_),.v (ii t.n.n),.v (sv t.n.s),ints t.n.kids,.sl 1 (cg t.kids)] 0
theorem Xu (t:T):tT t=uT t:=by cases t;rw [tT];rfl
theorem kp (l:List T):cg l=l.map fun t=>[uT t]:=by
 induction l with
 | nil=>rfl
 | cons t l ih=>rw [cg,ih,Xu];rfl
theorem qV (l:List T):(cg l).length=l.length:=by rw [kp];simp
theorem Jm (l:List T) (t:T):cg (l++[t])=cg l++[[uT t]]:=by rw [kp,kp];simp
theorem vy {l:List T} {i:Nat} {t:T} (h:l[i]?=some t):(cg l)[i]?=some [uT t]:=by rw [kp,getElem?_map,h];rfl
def trG:Option (T × Nat)->GV
 | none=>.tup [.U,.U,.v (.bool false)]
 | some (t,e)=>.tup [uT t,.v (ii (e:Nat)),.v (.bool true)]
theorem QI (nodes:List Nd) (hl:nodes.length<=1099511627776) (hk:∀ n∈nodes,n.kids.length<=1099511627776):∀ (f a:Nat),nodes.length - a+1<=f->a<=1099511627776 ->
  GF Tryz.prog 193 [.sl 5 (nodes.map ay),.v (ii (a:Nat))] [] (trG (oo nodes f a)) []:=by
 intro f
 induction f with
 | zero=>intro a h;omega
 | succ f ih =>
 intro a hf ha;rw [oo]
 cases hn:nodes[a]? with
 | none =>
  have lx:nodes.length<=a:=List.getElem?_eq_none_iff.1 hn
  have hd:decide (((nodes.map ay).length:Int)<=(a:Int))=true:=by simpa using lx
  refine ai Tryz.func193 Tryz.ntmps193 ?_;refine qZ ?_;exact ⟨_,jg,rfl,rfl⟩
 | some n =>
  have ak:=(List.getElem?_eq_some_iff.1 hn).1
  have hd:decide (((nodes.map ay).length:Int)<=(a:Int))=false:=by simpa using ak
  have hr:(nodes.map ay)[a]?=some (ay n):=by rw [getElem?_map,hn];rfl
  have xJ:=hk n (mem_of_getElem? hn);simp only;generalize hR:qh (oo nodes f) n.kids (a+1) []=R;refine ai Tryz.func193 Tryz.ntmps193 ?_;refine GW.wk (Wk.KG (i:=0) (o:=5) 152 1 rfl rfl) ?_
  refine GW.range (n.kids.map fun i=>[GV.v (ii i)]).length (fun k fr Γ=>∃ next acc m rows,fr=[.sl 5 (nodes.map ay),.v (ii (a:Nat)),.U,.U,.U,.U,.U,.loc 0 0,.v (ii (next:Nat)),.U,.U,.U,.U,.U,.U,.U,.U,.U,.U,.U,.U,.U,.U,.U,.U,.U,.U,.U,.U,.U,ints n.kids,.v (ii ((n.kids.map fun i=>[GV.v (ii i)]).length:Int)),.v (ii (k:Nat)),.U,.U,.U,.U,.U,.U,.U,.U,.U,.U,.U,.U,.U,.U,.U,.U,.U,.U,.U,.U,.U,.U,.U,.U,.U,.U,.U,.U,.U,.U,.U,.U,.U,.U,.U] /\
   Γ=[.box 190 [.v (ii n.kind),.v (ii n.at_),.v (ii n.n),.v (sv n.s),ints n.kids,.vec 1 m],.vec 152 1 0 rows]/\rows.length=m/\rows=cg acc/\m=k/\a+1<=next/\next<=nodes.length/\qh (oo nodes f) (n.kids.drop k) next acc=R) ?_ (by simpa using xJ) ?_ ?_ ?_
  ·exact ⟨_,_,Wk.aC aq,a+1,[],0,[],rfl,rfl,rfl,rfl,rfl,Nat.le_refl _,ak,hR⟩
  ·rintro k _ _ ⟨next,acc,m,rows,rfl,rfl,_⟩;exact dQ
  ·rintro k _ _ eS ⟨next,acc,m,rows,rfl,rfl,hm,bt,sZ,Iz,rC,h⟩
   have eS:k < n.kids.length:=by simpa using eS
   have cJ:n.kids[k]?=some n.kids[k]:=by simp [eS]
   have sY:(n.kids.map fun i=>[GV.v (ii i)])[k]?=some [.v (ii n.kids[k])]:=by rw [getElem?_map,cJ];rfl
   rw [drop_eq_getElem_cons eS,qh] at h;generalize n.kids[k]=z at *
   by_cases hz:z=(next:Int)
   ·rw [if_pos hz] at h;subst hz
    have Ya:((next:Int) != (next:Int))=false:=by simp
    have Dd:=ih next ag ag
    cases hq:oo nodes f next with
    | none =>
     rw [hq] at h Dd;subst h;refine ae ?_;refine ab [] Dd ?_;refine qZ ?_;exact ⟨_,jg,rfl,rfl⟩
    | some x =>
     obtain ⟨t,e⟩:=x;rw [hq] at h Dd;simp only at h
     obtain ⟨s1,s2,_,_⟩:=Go.Im.Ay f next t e hq
     refine ae ?_;refine ab [] Dd ?_;refine eQ ?_;refine ae ?_;exact ⟨rfl,rfl,_,_,Wk.aC aq,e,acc++[t],_,_,rfl,rfl,by simp [hm],by rw [Jm,bt],by omega,by omega,s2,h⟩
   ·rw [if_neg hz] at h;subst h
    have Ya:(z != (next:Int))=true:=by simpa using hz
    refine ae ?_;refine qZ ?_;exact ⟨_,jg,rfl,rfl⟩
  ·rintro _ _ ⟨next,acc,m,rows,rfl,rfl,hm,bt,sZ,Iz,rC,h⟩;rw [show n.kids.drop (n.kids.map fun i=>[GV.v (ii i)]).length=[] by simp,qh] at h;subst h;simp only;subst bt;refine bb ?_;refine GW.wk (Wk.yP (i:=0) (o:=5) (j:=1) rfl rfl rfl rfl hm) ?_
   by_cases h0:n.at_ < 0
   ·rw [if_pos h0]
    have sU:decide ((0:Int)<=n.at_)=false:=by simpa using h0
    refine ae ?_;refine aI (aB 0 11 .nil) ?_;refine bf ?_;rw [sU];refine GW.wk (Wk.freeze (i:=0) rfl rfl rfl (Nat.le_refl _)) ?_;refine qZ ?_;exact ⟨_,jg,rfl,rfl⟩
   ·rw [if_neg h0]
    have sU:decide ((0:Int)<=n.at_)=true:=by simpa using h0
    refine ae ?_;refine aI (aB 0 11 .nil) ?_;refine bf ?_;rw [sU];refine GW.wk (Wk.freeze (i:=0) rfl rfl rfl (Nat.le_refl _)) ?_;refine Jt ?_;exact ⟨rfl,rfl⟩
def BS (nodes:List Nd):Option (List T × Nat)->GV
 | none=>.tup [.U,.v (.bool false)]
 | some (l,e)=>.tup [.sl 1 (cg l),.v (.bool ((e:Int)==(nodes.length:Int)))]
theorem vN (p:Src) (hl:p.nodes.length<=1099511627776) (hk:∀ n∈p.nodes,n.kids.length<=1099511627776) (hf:p.fns.length<=1099511627776) :
  GF Tryz.prog 155 [.agg (ax p)] [] (BS p.nodes (jj p.nodes p.fns 0 [])) []:=by
 generalize hR:jj p.nodes p.fns 0 []=R;refine ai Tryz.func155 Tryz.ntmps155 ?_;refine GW.wk (Wk.Cr (t:=4) (a:=none) (c:=0) 152 1 rfl) ?_
 refine GW.range (p.fns.map aw).length (fun k fr Γ=>∃ next acc m rows,fr=[.U,.loc 0 0,.U,.U,.vec 1 m,.v (ii (next:Nat)),.U,.U,.U,.U,.U,.U,.sl 3 (p.fns.map aw),.v (ii ((p.fns.map aw).length:Int)),.v (ii (k:Nat)),.U,.U,.U,.U,.U,.U,.U,.U,.U,.U,.U,.U,.U,.U,.U,.U,.U,.U,.U,.U,.U,.U,.U,.U,.U,.U,.U,.U,.U,.U,.U] /\
  Γ=[.box 34 (ax p),.vec 152 1 0 rows]/\rows.length=m/\rows=cg acc/\m=k/\next<=p.nodes.length/\jj p.nodes (p.fns.drop k) next acc=R) ?_ (by simpa using hf) ?_ ?_ ?_
 ·exact ⟨_,_,Wk.aC aq,0,[],0,[],rfl,rfl,rfl,rfl,rfl,Nat.zero_le _,hR⟩
 ·rintro k _ _ ⟨next,acc,m,rows,rfl,rfl,_⟩;exact dQ
 ·rintro k _ _ eS ⟨next,acc,m,rows,rfl,rfl,hm,bt,sZ,rC,h⟩
  have eS:k < p.fns.length:=by simpa using eS
  have cJ:p.fns[k]?=some p.fns[k]:=by simp [eS]
  have sY:(p.fns.map aw)[k]?=some (aw p.fns[k]):=by rw [getElem?_map,cJ];rfl
  rw [drop_eq_getElem_cons eS,jj] at h;generalize p.fns[k]=fn at *
  have Nb:=QI p.nodes hl hk (p.nodes.length+1) next ag ag
  unfold tr at h
  cases hq:oo p.nodes (p.nodes.length+1) next with
  | none =>
   rw [hq] at h Nb;subst h;refine ae ?_;refine ab [] Nb ?_;refine GQ ?_;exact ⟨_,jg,rfl,rfl⟩
  | some x =>
   obtain ⟨t,e⟩:=x;rw [hq] at h Nb;simp only at h
   obtain ⟨s1,s2,_,_⟩:=Go.Im.Ay _ next t e hq
   by_cases hb:fn.body=(next:Int)
   ·rw [if_pos hb] at h
    have bq:(fn.body != (next:Int))=false:=by simpa using hb
    refine ae ?_;refine ab [] Nb ?_;refine eQ ?_;refine ae ?_;exact ⟨rfl,rfl,_,_,(Wk.cut (n:=2) (Nat.zero_le _) rfl).trans (Wk.aC aq),e,acc++[t],_,_,rfl,rfl,by simp [hm],by rw [Jm,bt],by omega,s2,h⟩
   ·rw [if_neg hb] at h;subst h
    have bq:(fn.body != (next:Int))=true:=by simpa using hb
    refine ae ?_;refine ab [] Nb ?_;refine GQ ?_;exact ⟨_,jg,rfl,rfl⟩
 ·rintro _ _ ⟨next,acc,m,rows,rfl,rfl,hm,bt,sZ,rC,h⟩;rw [show p.fns.drop (p.fns.map aw).length=[] by simp,jj] at h;subst h;subst bt;refine bb ?_;refine GW.wk (Wk.jx (t:=4) rfl rfl rfl hm) ?_
  have UR:p.nodes.length=(p.nodes.map ay).length:=by simp
  unfold BS;rw [UR];refine ae ?_;refine aI (aB 0 8 .nil) ?_;refine ar ?_;exact qY
end Go.Xg
namespace Go.Xg
open Go.RowKit Go.Xw Go.Proofs
open Go.Xp (Tok Nd T bh one levels gn dN eg dv dd)
open Go.Sp
attribute [local irreducible] GW GL GO YG GC GA aV aZ
structure PX where
 a:Value
 b:Value
 c:Value
 d:Value
 e:Value
abbrev bK (p:RS) (x:PX):Ob:=.box 208 [iy p.l,.v (ii p.i),.v (ii p.e),.v (ii p.code),.v (ii p.at_),.v x.a,.v x.b,.v x.c,.v x.d,.v x.e]
theorem rn (p:RS) (k:Nat) (x:PX) (hp:p.ok) (hk:k<=1):GF Tryz.prog 241 [.loc 0 0,.v (ii (k:Nat))] [bK p x] (.agg (da (Go.Im.tok p k))) [bK p x]:=by
 obtain ⟨lA,dH⟩:=hp;unfold Go.Im.tok
 cases ht:p.l[p.i+k]? with
 | some t =>
  have hr:=km ht;have ak:p.i+k < p.l.length:=(List.getElem?_eq_some_iff.1 ht).1
  have hd:decide (((p.l.map da).length:Int)<=((p.i+k:Nat):Int))=false:=by simpa using by omega
  refine ai Tryz.func241 Tryz.ntmps241 ?_;refine aI (aB 0 12 .nil) ?_;refine bf ?_;refine aI (aB 0 12 (.a 12 .nil)) ?_;refine ar ?_;exact o9
 | none =>
  have ak:p.l.length<=p.i+k:=List.getElem?_eq_none_iff.1 ht
  have hd:decide (((p.l.map da).length:Int)<=((p.i+k:Nat):Int))=true:=by simpa using by omega
  refine ai Tryz.func241 Tryz.ntmps241 ?_;refine aI (aB 0 12 .nil) ?_;refine ar ?_;exact o9
theorem ES (p:RS) (c a:Int) (x:PX):GF Tryz.prog 270 [.loc 0 0,.v (ii c),.v (ii a)] [bK p x] (.tup []) [bK (p.fail c a) x]:=by
 unfold RS.fail
 by_cases h:p.code=0
 ·have h':(p.code==0)=true:=by simpa using h
  rw [if_pos h];refine ai Tryz.func270 Tryz.ntmps270 ?_;exact fU
 ·have h':(p.code==0)=false:=by simpa using h
  rw [if_neg h];refine ai Tryz.func270 Tryz.ntmps270 ?_;exact fU
theorem yT (p:RS) (x:PX) (hp:p.ok):GF Tryz.prog 242 [.loc 0 0] [bK p x] (.tup []) [bK (Go.Im.jX p) x]:=by
 have ht:=rn p 0 x hp aJ;unfold Go.Im.jX;generalize Go.Im.tok p 0=t at *;have hf:=ES p 7 t.at_ x;refine ai Tryz.func242 Tryz.ntmps242 ?_;refine ab [0] ht ?_;refine ab [0] hf ?_;exact fU
theorem vT (p:RS) (d:Nat) (x:PX) (hp:p.ok):GF Tryz.prog 272 [.loc 0 0,.v (ii (d:Nat))] [bK p x] (.v (.bool ((Go.Im.bM p d).code==0))) [bK (Go.Im.bM p d) x]:=by
 have ht:=rn p 0 x hp aJ;unfold Go.Im.bM;generalize Go.Im.tok p 0=t at *
 by_cases h:d > 60
 ·have h':decide ((60:Int) < (d:Int))=true:=by simpa using by omega
  rw [if_pos h];have hf:=ES p 9 t.at_ x;generalize p.fail 9 t.at_=q at *;refine ai Tryz.func272 Tryz.ntmps272 ?_;refine ab [0] ht ?_;refine ab [0] hf ?_;exact al
 ·have h':decide ((60:Int) < (d:Int))=false:=by simpa using by omega
  rw [if_neg h];refine ai Tryz.func272 Tryz.ntmps272 ?_;exact al
theorem jO (p:RS) (k:Nat) (s:ah) (x:PX) (hp:p.ok) (hk:k<=1):GF Tryz.prog 239 [.loc 0 0,.v (ii (k:Nat)),.v (sv s)] [bK p x] (.v (.bool (Go.Im.is p k s))) [bK p x]:=by
 have ht:=rn p k x hp hk;unfold Go.Im.is;generalize Go.Im.tok p k=t at *
 cases h:(t.kind==3) with
 | true =>
  rw [Bool.true_and];refine ai Tryz.func239 Tryz.ntmps239 ?_;refine ab [0] ht ?_;exact al
 | false =>
  rw [Bool.false_and];refine ai Tryz.func239 Tryz.ntmps239 ?_;refine ab [0] ht ?_;exact al
theorem qO (p:RS) (x:PX) (hp:p.ok):GF Tryz.prog 240 [.loc 0 0] [bK p x] (.v (sv (Go.Im.tok p 0).s)) [bK (Go.Im.bm p) x]:=by
 have ht:=rn p 0 x hp aJ;have hw:=yT p x hp;have UY:=hp.2;have Dg:=hp.1;unfold Go.Im.bm;generalize Go.Im.tok p 0=t at *;have hf:=ES p 8 t.at_ x
 by_cases hc:p.code=0
 ·have du:(p.code != 0)=false:=by simpa using hc
  rw [if_pos hc]
  by_cases h2:t.kind=2
  ·have qo:(t.kind != 2)=false:=by simpa using h2
   rw [if_pos h2]
   by_cases hl:t.s.length > 12
   ·have iN:decide ((12:Int) < (t.s.length:Int))=true:=by simpa using by omega
    rw [if_pos hl];refine ai Tryz.func240 Tryz.ntmps240 ?_;refine ab [0] ht ?_;refine ab [0] hf ?_;exact al
   ·have iN:decide ((12:Int) < (t.s.length:Int))=false:=by simpa using by omega
    rw [if_neg hl];refine ai Tryz.func240 Tryz.ntmps240 ?_;refine ab [0] ht ?_;exact al
  ·have qo:(t.kind != 2)=true:=by simpa using h2
   rw [if_neg h2];refine ai Tryz.func240 Tryz.ntmps240 ?_;refine ab [0] ht ?_;refine ab [0] hw ?_;exact al
 ·have du:(p.code != 0)=true:=by simpa using hc
  rw [if_neg hc];refine ai Tryz.func240 Tryz.ntmps240 ?_;refine ab [0] ht ?_;exact al
theorem eM (p:RS) (s:ah) (x:PX) (hp:p.ok):GF Tryz.prog 243 [.loc 0 0,.sl 1 [[.v (sv s)]]] [bK p x] (.tup []) [bK (Go.Im.want p s) x]:=by
 have hi:=jO p 0 s x hp aJ;have hw:=yT p x hp;have UY:=hp.2;have Dg:=hp.1;unfold Go.Im.want;generalize Go.Im.jX p=q at *;have hr:([[GV.v (sv s)]]:List (List GV))[0]?=some [.v (sv s)]:=rfl;refine ai Tryz.func243 Tryz.ntmps243 ?_
 by_cases hc:p.code=0
 ·have du:(p.code != 0)=false:=by simpa using hc
  rw [if_pos hc]
  cases h:Go.Im.is p 0 s with
  | true =>
   rw [h] at hi;rw [if_pos rfl];refine GW.range 1 (fun k fr Γ=>fr=[.loc 0 0,.U,.U,.U,.U,.U,.sl 1 [[.v (sv s)]],.v (ii ((1:Nat):Int)),.v (ii (k:Nat)),.U,.U,.U,.U,.U,.U,.U,.U,.U,.U,.U,.U,.U,.U,.U,.U,.U,.U,.U,.U,.U,.U]/\((k=0/\Γ=[bK p x])\/(1<=k/\Γ=[bK p.next x]))) ?_ aJ ?_ ?_ ?_
   ·exact ⟨_,_,Wk.aC aq,rfl,.inl ⟨rfl,rfl⟩⟩
   ·rintro k _ _ ⟨rfl,_⟩;exact dQ
   ·rintro k _ _ hk ⟨rfl,⟨rfl,rfl⟩ | ⟨h1,_⟩⟩
    ·refine ae ?_;refine ab [0] hi ?_;exact ⟨rfl,rfl,_,_,Wk.aC aq,rfl,.inr ⟨Nat.le_refl _,rfl⟩⟩
    ·omega
   ·rintro _ _ ⟨rfl,⟨h1,_⟩ | ⟨_,rfl⟩⟩
    ·cases h1
    ·exact mf
  | false =>
   rw [h] at hi;rw [if_neg aJ];refine GW.range 1 (fun k fr Γ=>fr=[.loc 0 0,.U,.U,.U,.U,.U,.sl 1 [[.v (sv s)]],.v (ii ((1:Nat):Int)),.v (ii (k:Nat)),.U,.U,.U,.U,.U,.U,.U,.U,.U,.U,.U,.U,.U,.U,.U,.U,.U,.U,.U,.U,.U,.U]/\k=0/\Γ=[bK p x]) ?_ aJ ?_ ?_ ?_
   ·exact jz
   ·rintro k _ _ ⟨rfl,_⟩;exact dQ
   ·rintro k _ _ hk ⟨rfl,rfl,rfl⟩;refine ae ?_;refine ab [0] hi ?_;refine ab [0] hw ?_;exact fU
   ·rintro _ _ ⟨rfl,h1,_⟩;cases h1
 ·have du:(p.code != 0)=true:=by simpa using hc
  rw [if_neg hc];refine GW.range 1 (fun k fr Γ=>fr=[.loc 0 0,.U,.U,.U,.U,.U,.sl 1 [[.v (sv s)]],.v (ii ((1:Nat):Int)),.v (ii (k:Nat)),.U,.U,.U,.U,.U,.U,.U,.U,.U,.U,.U,.U,.U,.U,.U,.U,.U,.U,.U,.U,.U,.U]/\k=0/\Γ=[bK p x]) ?_ aJ ?_ ?_ ?_
  ·exact jz
  ·rintro k _ _ ⟨rfl,_⟩;exact dQ
  ·rintro k _ _ hk ⟨rfl,rfl,rfl⟩;exact mf
  ·rintro _ _ ⟨rfl,h1,_⟩;cases h1
end Go.Xg
namespace Go.Xg
open Go.RowKit Go.Xw Go.Proofs
open Go.Xp (Tok Nd T bh one levels)
open Go.Sp
attribute [local irreducible] GW GL GO YG GC GA aV aZ
mutual
def pT:T->GV
 | .mk n l=>.box [.v (ii n.kind),.v (ii n.at_),.v (ii n.n),.v (sv n.s),.v (.slice none 0 0),.sl 1 (ke l)] 0
def ke:List T->List (List GV)
 | []=>[]
 | t::r=>[pT t]::ke r
end
abbrev qT (t:T):GV:=.box [.v (ii t.n.kind),.v (ii t.n.at_),.v (ii t.n.n),.v (sv t.n.s),.v (.slice none 0 0),.sl 1 (ke t.kids)] 0
theorem Xq (t:T):pT t=qT t:=by cases t;rw [pT];rfl
theorem gi (l:List T):ke l=l.map fun t=>[qT t]:=by
 induction l with
 | nil=>rfl
 | cons t l ih=>rw [ke,ih,Xq];rfl
theorem mO (l:List T):(ke l).length=l.length:=by rw [gi];simp
theorem vt (l:List T) (t:T):ke (l++[t])=ke l++[[qT t]]:=by rw [gi,gi];simp
theorem Bv {l:List T} {i:Nat} {t:T} (h:l[i]?=some t):(ke l)[i]?=some [qT t]:=by rw [gi,getElem?_map,h];rfl
theorem NQ (k a:Int) (s:ah) (rows:List (List GV)):GF Tryz.prog 271 [.v (ii k),.v (ii a),.v (sv s),.sl 1 rows] [] (.loc 0 0) [.box 190 [.v (ii k),.v (ii a),.v (ii 0),.v (sv s),.v (.slice none 0 0),.sl 1 rows]]:=by
 refine ai Tryz.func271 Tryz.ntmps271 ?_;refine GW.wk (Wk.cells 0 rfl (ds:=[.v (ii k),.v (ii a),.v (ii 0),.v (sv s),.v (.slice none 0 0),.sl 1 rows]) jg) ?_;refine GW.ret ?_;refine rV (n:=1) rfl cl rfl (Nat.zero_le _) rfl rfl ?_;exact ⟨rfl,rfl⟩
theorem ey (k a:Int) (s:ah) (l:List T) (rows:List (List GV)) (h:ke l=rows):GF Tryz.prog 271 [.v (ii k),.v (ii a),.v (sv s),.sl 1 rows] [] (qT (one k a s l)) []:=by
 subst h;refine ai Tryz.func271 Tryz.ntmps271 ?_;refine GW.wk (Wk.cells 0 rfl (ds:=[.v (ii k),.v (ii a),.v (ii 0),.v (sv s),.v (.slice none 0 0),.sl 1 (ke l)]) jg) ?_;refine GW.wk (Wk.freeze (i:=0) rfl rfl rfl (Nat.zero_le _)) ?_;exact al
theorem tl:GF Tryz.prog 233 [] [] (.sl 1 (levels.map fun l=>[strs l])) []:=by
 refine ai Tryz.func233 Tryz.ntmps233 ?_
 iterate 10 (refine bS ?_)
 exact av
end Go.Xg
namespace Go.Xg
open Go.RowKit Go.Xw Go.Proofs
open Go.Xp (Tok Nd T levels cD bC aP az)
open Go.Im (nX rL tO lk cQ fB tG jF fO o0 p7)
attribute [local irreducible] GW GL GO YG GC GA aV aZ
theorem decDigits_eq (n:Nat):Go.Lib.decDigits n=cD n:=by
 induction n using Nat.strongRecOn with
 | _ n ih =>
  unfold Go.Lib.decDigits cD;split
  ·rfl
  ·rw [ih (n / 10) ag]
theorem SN (n:Int):Go.Lib.itoa n=nX n:=by
 unfold Go.Lib.itoa nX;rw [decDigits_eq,decDigits_eq]
theorem LA (n:Int) (h0 : -9223372036854775808<=n) (h1:n<=9223372036854775807):GF Tryz.prog 195 [.v (ii n)] [] (.v (sv (nX n))) []:=by
 refine GF.Vs (vs:=[ii n]) fun K β w ht hf=>?_
 obtain ⟨E,z,lg⟩:=sJ.all ht hf ht.pow (zs:=vu.map fun z=>Value.int .u64 z) aJ (fun m o x hx=>by
  rw [getElem?_map] at hx;unfold xd;rw [if_neg aJ,if_pos rfl]
  cases hs:vu[o]? with
  | none=>rw [hs] at hx;cases hx
  | some y=>rw [hs] at hx;cases hx;rfl)
 have z6:Go.Lib.TabIs Tryz.prog w "internal/strconv.uint64pow10" .u64 Go.Lib.pow10Tab:=by
  unfold Go.Lib.TabIs World.var?;rw [show Tryz.prog.globalNamed "internal/strconv.uint64pow10" = some 3 by kernel_rfl,show Go.Lib.pow10Tab=vu by decide];simp only [Option.bind_some,lg]
 refine mi.pB (Calls.mono (Tryz.strconv_Itoa n h0 h1 w z6) ?_);rintro e w' ⟨h2,k,os,h3⟩;refine ⟨_,h2,by rw [SN];rfl,?_⟩;subst h3;refine ⟨rfl,rfl,rfl,by simp [Go.Sort.grow,World.drewN],fun j hj _=>?_⟩;simp only [Go.Sort.grow,World.drewN];rw [Array.getElem?_append_left hj]
theorem P4 (l:List ah) (s:ah) (hl:l.length<=1099511627776):GF Tryz.prog 234 [strs l,.box [.v (sv s)] 0] [] (.v (.bool (l.contains s))) []:=by
 have h:=kq l s hl;generalize l.contains s=b at *;refine ai Tryz.func234 Tryz.ntmps234 ?_;refine ab [] h ?_;exact al
def Ch (ls:List (List ah)) (s:ah):Int:=match ls.findIdx? (fun l=>l.contains s) with | some i=>(i:Int) | none => -1
theorem Ha (ls:List (List ah)) (s:ah) (hn:ls.length<=1099511627776) (hl:∀ l∈ls,l.length<=1099511627776) :
  GF Tryz.prog 232 [.sl 1 (ls.map fun l=>[strs l]),.fn (.func 234) [] [.box [.v (sv s)] 0]] [] (.v (ii (Ch ls s))) []:=by
 have dK:(ls.map fun l=>[strs l]).length=ls.length:=by simp
 refine ai Tryz.func232 Tryz.ntmps232 ?_;refine GW.range (ls.map fun l=>[strs l]).length (fun k fr Γ=>fr=[.sl 1 (ls.map fun l=>[strs l]),.fn (.func 234) [] [.box [.v (sv s)] 0],.U,.U,.U,.U,.U,.v (ii ((ls.map fun l=>[strs l]).length:Int)),.v (ii (k:Nat)),.U,.U,.U,.U,.U,.U,.U,.U,.U,.U]/\Γ=[]/\(ls.take k).all (fun l=>!(l.contains s))=true) ?_ ag ?_ ?_ ?_
 ·exact jz
 ·exact gy
 ·rintro k _ _ ak ⟨rfl,rfl,aQ⟩;rw [dK] at ak
  have cJ:ls[k]?=some ls[k]:=by simp [ak]
  have hr:(ls.map fun l=>[strs l])[k]?=some [strs ls[k]]:=by rw [getElem?_map,cJ];rfl
  have hc:=P4 ls[k] s (hl _ (getElem_mem ak))
  have bu:(ls.take (k+1)).all (fun l=>!(l.contains s))=((ls.take k).all (fun l=>!(l.contains s))&&!(ls[k].contains s)):=by rw [take_add_one,cJ,all_append];simp
  have zi:ls[k].contains s=true->Ch ls s=(k:Int):=fun h0=>by
   have:ls.findIdx? (fun l=>l.contains s)=some k:=by
    rw [List.findIdx?_eq_some_iff_getElem];refine ⟨ak,h0,fun j hj=>?_⟩;rw [all_eq_true] at aQ;have:=aQ ls[j] (by rw [List.mem_take_iff_getElem];exact ⟨j,by omega,rfl⟩);simpa using this
   unfold Ch;rw [this]
  generalize ls[k]=l at *
  cases hb:l.contains s with
  | true =>
   rw [hb] at hc;rw [zi hb];refine ae ?_;refine kZ [] hc ?_;exact av
  | false =>
   rw [hb] at hc bu;refine ae ?_;refine kZ [] hc ?_;refine ae ?_;exact ⟨rfl,rfl,_,_,Wk.aC aq,rfl,rfl,by rw [bu,aQ];rfl⟩
 ·rintro _ _ ⟨rfl,rfl,aQ⟩;rw [dK,take_length] at aQ
  have:ls.findIdx? (fun l=>l.contains s)=none:=by
   rw [List.findIdx?_eq_none_iff];intro x hx;rw [all_eq_true] at aQ;simpa using aQ x hx
  unfold Ch;rw [this];exact av
theorem Dv (s:ah):GF Tryz.prog 200 [.v (sv s)] [] (.v (ii (rL s))) []:=by
 have h1:=tl;have h2:=Ha levels s aJ aJ;rw [show rL s=Ch levels s from rfl];generalize Ch levels s=z at *;generalize levels=ls at *;refine ai Tryz.func200 Tryz.ntmps200 ?_;refine GL.wk (Wk.freeze (i:=0) rfl rfl rfl (Nat.le_refl _)) ?_;refine GN (by simp only [ou,nz];rfl) ?_;refine ab [] h1 ?_;refine ab [] h2 ?_;exact al
end Go.Xg
namespace Go.Xg
open Go.RowKit Go.Xw Go.Proofs
open Go.Xp (Tok Nd T levels cD bC aP az)
open Go.Im (nX rL tO lk cQ fB tG jF fO o0 p7 fQ uE cY)
attribute [local irreducible] GW GL GO YG GC GA aV aZ
theorem NF (t:T) (z:Int):GF Tryz.prog 201 [uT t,.v (ii z)] [] (.v (.bool (lk t z))) []:=by
 have h:=Dv t.n.s;unfold lk
 cases hk:(t.n.kind==6) with
 | true =>
  generalize rL t.n.s=y at *;refine ai Tryz.func201 Tryz.ntmps201 ?_;refine ab [] h ?_;exact al
 | false =>
  refine ai Tryz.func201 Tryz.ntmps201 ?_;exact al
theorem uy (t:T) (b:Bool) (x:ah) (hx:x.length<=1099511627776) (h:GF Tryz.prog 160 [uT t] [] (.v (sv x)) []) :
  GF Tryz.prog 199 [uT t,.v (.bool b)] [] (.v (sv (tO b x))) []:=by
 unfold tO
 cases b with
 | true =>
  refine ai Tryz.func199 Tryz.ntmps199 ?_;refine ab [] h ?_;exact al
 | false =>
  refine ai Tryz.func199 Tryz.ntmps199 ?_;refine ab [] h ?_;exact al
theorem P6 (ex:FuncId) [hf:aH Tryz.prog ex] (tx:T->ah) (l:List T) (h:∀ t∈l,GF Tryz.prog ex [uT t] [] (.v (sv (tx t))) []) (hj:(bC (l.map tx)).length<=1099511627776) (hl:l.length<=1099511627776) :
  GF Tryz.prog 198 [.sl 1 (cg l),.v (.func (.func ex) #[] #[])] [] (.v (sv (bC (l.map tx)))) []:=by
 have pn:=qV l;have hJ:=LB (l.map tx) hj (by simpa using hl);refine ai Tryz.func198 Tryz.ntmps198 ?_;refine GW.wk (Wk.Cr (t:=5) (a:=none) (c:=0) 9 1 rfl) ?_;refine GW.range (cg l).length (fun k fr Γ=>∃ m rows,fr=[.sl 1 (cg l),.v (.func (.func ex) #[] #[]),.U,.U,.U,.vec 0 m,.U,.U,.sl 1 (cg l),.v (ii ((cg l).length:Int)),.v (ii (k:Nat)),.U,.U,.U,.U,.U,.U,.U,.U,.U,.U,.U,.U]/\Γ=[.vec 9 1 0 rows]/\rows.length=m/\rows=((l.take k).map tx).map (fun s=>[GV.v (sv s)])/\m=k) ?_ ag ?_ ?_ ?_
 ·exact ⟨_,_,Wk.aC aq,0,[],rfl,rfl,rfl,rfl,rfl⟩
 ·rintro k _ _ ⟨m,rows,rfl,rfl,_⟩;exact dQ
 ·rintro k _ _ ak ⟨m,rows,rfl,rfl,hm,bt,sZ⟩;rw [pn] at ak
  have cJ:l[k]?=some l[k]:=by simp [ak]
  have hr:=vy cJ;have ht:=h l[k] (getElem_mem ak)
  have bu:((l.take (k+1)).map tx).map (fun s=>[GV.v (sv s)])=rows++[[.v (sv (tx l[k]))]]:=by rw [take_add_one,cJ,bt,map_append,map_append];rfl
  generalize l[k]=t at *;refine ae ?_;refine iD [] ht ?_;refine ae ?_;refine eQ ?_;refine ae ?_;exact ⟨rfl,rfl,_,_,Wk.aC aq,_,_,rfl,rfl,by simp [hm],bu.symm,by omega⟩
 ·rintro _ _ ⟨m,rows,rfl,rfl,hm,bt,sZ⟩;rw [pn,take_length] at bt;refine bb ?_;refine GW.wk (Wk.jx (t:=5) rfl rfl rfl hm) ?_;subst bt;refine ae ?_;refine ab [] hJ ?_;exact al
theorem WU {t:T} (h:cY t.n.kind t.kids.length=true) (hk:t.n.kind=3\/t.n.kind=5):∃ a,t.kids=[a]:=by
 have:t.kids.length=1:=by
  unfold cY at h
  rcases hk with hk | hk <;> rw [hk] at h <;> simp at h <;> omega
 match hl:t.kids,this with
 | [a],_=>exact ⟨a,rfl⟩
theorem WV {t:T} (h:cY t.n.kind t.kids.length=true) (hk:t.n.kind=6):∃ a b,t.kids=[a,b]:=by
 have:t.kids.length=2:=by
  unfold cY at h;rw [hk] at h;simp at h;omega
 match hl:t.kids,this with
 | [a,b],_=>exact ⟨a,b,rfl⟩
theorem Tx:∀ (N:Nat) (t:T),aP t<=N->fQ t=true->o0 t->jF t<=1099511627776->GF Tryz.prog 160 [uT t] [] (.v (sv (cQ t))) []:=by
 intro N
 induction N with
 | zero=>intro t h;rw [Go.Xp.eh] at h;omega
 | succ N ih =>
 intro t hN hk hn hw;have hlen:=Go.Im.vG _ t (Nat.le_refl _) hn;rw [Go.Xp.eh] at hN;rw [Go.Im.xS,Bool.and_eq_true,Go.Im.th,all_eq_true] at hk;rw [Go.Im.qR] at hn
 have fq:∀ a∈t.kids,GF Tryz.prog 160 [uT a] [] (.v (sv (cQ a))) []/\(cQ a).length<=1099511627776:=fun a ha=>by
  have h1:=Go.Im.tI ha;rw [Go.Im.oQ] at hw;have h3:=Go.Im.jE hn.2 ha
  have h2:aP a<=az t.kids:=by
   have:∀ (l:List T),a∈l->aP a<=az l:=by
    intro l
    induction l with
    | nil=>intro h;cases h
    | cons b l ih2 =>
     intro h;rw [az]
     rcases List.mem_cons.1 h with rfl | h
     ·omega
     ·have:=ih2 h;omega
   exact this _ ha
  have h4:=Go.Im.vG _ a (Nat.le_refl _) h3;exact ⟨ih a ag (hk.2 a ha) h3 ag,by omega⟩
 rw [Go.Im.Og] at hlen |-;unfold tG at hlen |-;have rz:=hk.1;have XU:=@WU t rz;have Zf:=@WV t rz;have UQ:=LA t.n.n hn.1.1 hn.1.2;have Iy:=Dv t.n.s
 have eS:t.kids.length<=1099511627776:=by
  have:=Go.Im.P2 t.kids;rw [Go.Im.oQ] at hw;omega
 have Ed:=fun hj=>P6 160 cQ t.kids (fun a ha=>(fq a ha).1) hj eS
 rw [<-Go.Im.CE] at Ed
 have tX:t.n.s.length<=1099511627776:=by rw [Go.Im.oQ] at hw;omega
 have M4:(bC (fB t.kids)).length<=1099511627776:=by
  have h1:=Go.Im.Ae (fB t.kids)
  have h2:((fB t.kids).map fun y=>y.length+2).sum<=fO t.kids:=by
   have:∀ (l:List T),p7 l->((fB l).map fun y=>y.length+2).sum<=fO l:=by
    intro l
    induction l with
    | nil=>intro _;simp [fB]
    | cons a l ih2 =>
     intro h;rw [p7] at h;have h1:=Go.Im.vG _ a (Nat.le_refl _) h.1;have h2:=ih2 h.2;rw [fB,fO,List.map_cons,sum_cons];omega
   exact this _ hn.2
  rw [Go.Im.oQ] at hw;omega
 have Ed:=Ed M4;clear M4;unfold uT;generalize iM:t.n.kind=kd at *
 by_cases h1:kd=1
 ·subst h1
  have f1:((1:Int)==1)=true:=by decide
  rw [if_pos rfl];refine ai Tryz.func160 Tryz.ntmps160 ?_;refine ab [] UQ ?_;exact al
 rw [if_neg h1] at hlen |-
 have g1:(kd==1)=false:=by simpa using h1
 by_cases h3:kd=3
 ·subst h3
  have f1:((3:Int)==1)=false:=by decide
  have f3:((3:Int)==3)=true:=by decide
  rw [if_pos rfl] at hlen |-;obtain ⟨a,ha⟩:=XU (.inl rfl);rw [ha] at fq hlen |-;obtain ⟨c1,c2⟩:=fq a (List.mem_singleton.2 rfl)
  have hr:(cg [a])[0]?=some [uT a]:=by rw [kp];rfl
  simp only [fB,getD_cons_zero] at hlen |-;generalize cg [a]=rows at *;generalize cQ a=x at *;refine ai Tryz.func160 Tryz.ntmps160 ?_;refine aI (aB 0 12 (.a 12 (aB 13 3 .nil))) ?_;refine ar ?_;refine aE [] c1 ?_;exact av
 rw [if_neg h3] at hlen |-
 have g3:(kd==3)=false:=by simpa using h3
 by_cases h4:kd=4
 ·subst h4
  have f1:((4:Int)==1)=false:=by decide
  have f3:((4:Int)==3)=false:=by decide
  have f4:((4:Int)==4)=true:=by decide
  rw [if_pos rfl] at hlen |-;generalize cg t.kids=rows at *;generalize bC (fB t.kids)=x at *;simp only [length_append,length_cons,length_nil] at hlen;refine ai Tryz.func160 Tryz.ntmps160 ?_;refine aI (aB 0 10 (.a 10 (aB 11 3 .nil))) ?_;refine ar ?_;refine aE [] Ed ?_;exact av
 rw [if_neg h4] at hlen |-
 have g4:(kd==4)=false:=by simpa using h4
 by_cases h5:kd=5
 ·subst h5
  have f1:((5:Int)==1)=false:=by decide
  have f3:((5:Int)==3)=false:=by decide
  have f4:((5:Int)==4)=false:=by decide
  have f5:((5:Int)==5)=true:=by decide
  rw [if_pos rfl] at hlen |-;obtain ⟨a,ha⟩:=XU (.inr rfl);rw [ha] at fq hlen |-;obtain ⟨c1,c2⟩:=fq a (List.mem_singleton.2 rfl)
  have hr:(cg [a])[0]?=some [uT a]:=by rw [kp];rfl
  simp only [fB,getD_cons_zero] at hlen |-;have UB:=uy a (a.n.kind==6) (cQ a) c2 c1;have nf:=Go.Im.ym (a.n.kind==6) (cQ a);generalize cg [a]=rows at *;generalize hxx:tO (a.n.kind==6) (cQ a)=x at *;refine ai Tryz.func160 Tryz.ntmps160 ?_;refine aI (aB 0 23 (.a 23 (.q 24 (.q 25 .nil)))) ?_;refine ar ?_;refine aE [] UB ?_;exact av
 rw [if_neg h5] at hlen |-
 have g5:(kd==5)=false:=by simpa using h5
 by_cases h6:kd=6
 ·subst h6
  have f1:((6:Int)==1)=false:=by decide
  have f3:((6:Int)==3)=false:=by decide
  have f4:((6:Int)==4)=false:=by decide
  have f5:((6:Int)==5)=false:=by decide
  have f6:((6:Int)==6)=true:=by decide
  rw [if_pos rfl] at hlen |-;obtain ⟨a,b,ha⟩:=Zf rfl;rw [ha] at fq hlen |-;obtain ⟨c1,c2⟩:=fq a (List.mem_cons_self);obtain ⟨d1,d2⟩:=fq b (List.mem_cons_of_mem _ List.mem_cons_self)
  have hr:(cg [a,b])[0]?=some [uT a]:=by rw [kp];rfl
  have fY:(cg [a,b])[1]?=some [uT b]:=by rw [kp];rfl
  simp only [fB,getD_cons_zero,getD_cons_succ] at hlen |-
  have aaq : -1<=rL t.n.s/\rL t.n.s<=9:=by
   unfold rL
   cases hf:levels.findIdx? (fun l=>l.contains t.n.s) with
   | none=>simp
   | some i =>
    rw [List.findIdx?_eq_some_iff_getElem] at hf;have:=hf.1
    have h9:levels.length=9:=by decide
    simp only;omega
  generalize rL t.n.s=lv at *;have eT:=NF a lv;have jB:=NF b (lv+1);have UB:=uy a (lk a lv) (cQ a) c2 c1;have Y4:=uy b (lk b (lv+1)) (cQ b) d2 d1;generalize cg [a,b]=rows at *;generalize hxx:tO (lk a lv) (cQ a)=x at *;generalize hyy:tO (lk b (lv+1)) (cQ b)=y at *;simp only [length_append,length_cons,length_nil] at hlen;refine ai Tryz.func160 Tryz.ntmps160 ?_;refine ab [] Iy ?_;refine aI (aB 0 14 (aB 17 5 (aB 24 15 (.a 14 (.a 15 (.q 16 (.q 22 (.q 23 (.a 39 (.a 40 (.q 41 (.q 42 .nil)))))))))))) ?_;refine ar ?_;refine yg [] eT ?_;refine ar ?_;refine aE [] UB ?_;refine yg [] jB ?_;refine ar ?_;refine aE [] Y4 ?_;exact av
 rw [if_neg h6]
 have g6:(kd==6)=false:=by simpa using h6
 refine ai Tryz.func160 Tryz.ntmps160 ?_;exact al
end Go.Xg
set_option maxHeartbeats 2000000
namespace Go.Xg
open Go.RowKit Go.Xw Go.Proofs
open Go.Xp (Tok Nd T levels cD bC aP az)
open Go.Im
attribute [local irreducible] GW GL GO YG GC GA aV aZ
abbrev iG (f:FuncId):Value:=.func (.func f) #[] #[]
theorem PF (l:List ah) (d:Nat) (hb:(fu l d).length<=1099511627776) (hl:l.length<=1099511627776):GF Tryz.prog 161 [strs l,.v (ii (d:Nat))] [] (.v (sv (fu l d))) []:=by
 have dK:(l.map fun s=>[GV.v (sv s)]).length=l.length:=by simp
 have zh:=sO l [123,32];unfold fu at hb |-;rw [length_append,zh] at hb;refine ai Tryz.func161 Tryz.ntmps161 ?_;refine GW.range (l.map fun s=>[GV.v (sv s)]).length (fun k fr Γ=>fr=[strs l,.U,.U,.U,.U,.v (sv (rU [123,32] (l.take k))),.U,.U,strs l,.v (ii ((l.map fun s=>[GV.v (sv s)]).length:Int)),.v (ii (k:Nat)),.U,.U,.U,.U,.U,.U,.U,.U,.U,.U]/\Γ=[]) ?_ ag ?_ ?_ ?_
 ·exact jo
 ·rintro k _ _ ⟨rfl,rfl⟩;exact dQ
 ·rintro k _ _ ak ⟨rfl,rfl⟩;rw [dK] at ak
  have cJ:l[k]?=some l[k]:=by simp [ak]
  have sY:(l.map fun s=>[GV.v (sv s)])[k]?=some [.v (sv l[k])]:=by rw [getElem?_map,cJ];rfl
  have h1:=sO (l.take (k+1)) [123,32];have h2:=Oc l (k+1)
  have hz:ki (l.take (k+1))=ki (l.take k)+(l[k].length+1):=by rw [take_add_one,cJ,Gw];simp [ki]
  have h3:=sO (l.take k) [123,32];rw [show l.take (k+1)=l.take k++[l[k]] by rw [take_add_one,cJ];rfl,LX] at |-;generalize l[k]=z at *;generalize rU [123,32] (l.take k)=acc at *;simp only [length_cons,length_nil] at h3 hb
  have aai:acc.length+z.length+3<=1099511627777:=by omega
  refine ae ?_;exact ⟨rfl,rfl,_,_,Wk.aC aq,rfl,rfl⟩
 ·rintro _ _ ⟨rfl,rfl⟩;rw [dK,take_length];generalize rU [123,32] l=acc at *;simp only [length_append,length_cons,length_nil] at zh hb;exact av
theorem Xa (ex bk:FuncId) [hf:aH Tryz.prog ex] (tx:T->ah) (t a:T) (k:Nat) (hk:t.kids[k]?=some a) (h:GF Tryz.prog ex [uT a] [] (.v (sv (tx a))) []) :
  GF Tryz.prog 265 [.v (ii (k:Nat)),.box [.v (iG ex),.v (iG bk)] 0,.box [uT t] 0] [] (.v (sv (tx a))) []:=by
 have hr:=vy hk;generalize tx a=x at *;refine ai Tryz.func265 Tryz.ntmps265 ?_;refine aI (aB 0 9 (.a 9 (.q 10 .nil))) ?_;refine ar ?_;refine yg [] h ?_;refine ar ?_;exact av
structure Wr (ex bk:FuncId) (tx:T->ah) (inl:List ah->Nat->ah):Prop where
 expr:∀ a,fQ a=true->o0 a->jF a<=1099511627776->GF Tryz.prog ex [uT a] [] (.v (sv (tx a))) []
 block:∀ l (d:Nat),(inl l d).length<=1099511627776->l.length<=1099511627776->d<=1099511627776->GF Tryz.prog bk [strs l,.v (ii (d:Nat))] [] (.v (sv (inl l d))) []
 mem:∀ l d s,s∈l->s.length<=(inl l d).length
theorem y7 (ex bk:FuncId) [he:aH Tryz.prog ex] [hb:aH Tryz.prog bk] (tx:T->ah) (inl:List ah->Nat->ah) (W:Wr ex bk tx inl) (t:T) (d:Nat) (hd:d+1<=1099511627776) (hl:t.kids.length<=1099511627776) (hlen:(nb tx inl d t).length<=1099511627776)
  (h:∀ a∈t.kids,(jV tx inl (d+1) a).length<=1099511627776->GF Tryz.prog 231 [.agg [.v (iG ex),.v (iG bk)],uT a,.v (ii ((d+1:Nat):Int))] [] (.v (sv (jV tx inl (d+1) a))) []) :
  GF Tryz.prog 197 [.agg [.v (iG ex),.v (iG bk)],uT t,.v (ii (d:Nat))] [] (.v (sv (nb tx inl d t))) []:=by
 have pn:=qV t.kids;rw [LR,Jh] at hlen |-;have dk:=W.block (t.kids.map (jV tx inl (d+1))) d hlen (by simpa using hl) ag
 have hk:∀ a∈t.kids,GF Tryz.prog 231 [.agg [.v (iG ex),.v (iG bk)],uT a,.v (ii ((d+1:Nat):Int))] [] (.v (sv (jV tx inl (d+1) a))) []:=fun a ha =>
  h a ha (Nat.le_trans (W.mem _ d _ (List.mem_map.2 ⟨a,ha,rfl⟩)) hlen)
 generalize inl (t.kids.map (jV tx inl (d+1))) d=y at *;refine ai Tryz.func197 Tryz.ntmps197 ?_;refine GW.wk (Wk.Cr (t:=7) (a:=none) (c:=0) 9 1 rfl) ?_;refine GW.range (cg t.kids).length (fun k fr Γ=>∃ m rows,fr=[.U,.U,.v (ii (d:Nat)),.loc 0 0,.U,.U,.U,.vec 1 m,.U,.U,.U,.U,.U,.sl 1 (cg t.kids),.v (ii ((cg t.kids).length:Int)),.v (ii (k:Nat)),.U,.U,.U,.U,.U,.U,.U,.U,.U,.U,.U,.U,.U,.U,.U,.U,.U]/\Γ=[.box 192 [.v (iG ex),.v (iG bk)],.vec 9 1 0 rows]/\rows.length=m/\rows=((t.kids.take k).map (jV tx inl (d+1))).map (fun s=>[GV.v (sv s)])/\m=k) ?_ ag ?_ ?_ ?_
 ·exact ⟨_,_,Wk.aC aq,0,[],rfl,rfl,rfl,rfl,rfl⟩
 ·rintro k _ _ ⟨m,rows,rfl,rfl,_⟩;exact dQ
 ·rintro k _ _ ak ⟨m,rows,rfl,rfl,hm,bt,sZ⟩;rw [pn] at ak
  have cJ:t.kids[k]?=some t.kids[k]:=by simp [ak]
  have hr:=vy cJ;have ht:=hk t.kids[k] (getElem_mem ak)
  have bu:((t.kids.take (k+1)).map (jV tx inl (d+1))).map (fun s=>[GV.v (sv s)])=rows++[[.v (sv (jV tx inl (d+1) t.kids[k]))]]:=by rw [take_add_one,cJ,bt,map_append,map_append];rfl
  generalize t.kids[k]=kid at *;generalize jV tx inl (d+1) kid=z at *;refine ae ?_;refine ab [] ht ?_;refine eQ ?_;refine ae ?_;exact ⟨rfl,rfl,_,_,Wk.aC aq,_,_,rfl,rfl,by simp [hm],bu.symm,by omega⟩
 ·rintro _ _ ⟨m,rows,rfl,rfl,hm,bt,sZ⟩;rw [pn,take_length] at bt;refine bb ?_;refine GW.wk (Wk.jx (t:=7) rfl rfl rfl hm) ?_;subst bt;refine ae ?_;refine iD [] dk ?_;exact av
theorem WW {t:T} {n:Nat} (h:cY t.n.kind t.kids.length=true) (hk:(n=1/\(t.n.kind=13\/t.n.kind=7\/t.n.kind=11\/t.n.kind=12))\/(n=2/\(t.n.kind=8\/t.n.kind=10))):t.kids.length=n:=by
 unfold cY at h
 rcases hk with ⟨rfl,hk⟩ | ⟨rfl,hk⟩
 ·rcases hk with hk | hk | hk | hk <;> rw [hk] at h <;> simp at h <;> omega
 ·rcases hk with hk | hk <;> rw [hk] at h <;> simp at h <;> omega
theorem Vm {t:T} (h:cY t.n.kind t.kids.length=true) (hk:t.n.kind=9):t.kids.length=2\/t.kids.length=3:=by
 unfold cY at h;rw [hk] at h;simp at h;omega
theorem HK (ex bk:FuncId) [he:aH Tryz.prog ex] [hb:aH Tryz.prog bk] (tx:T->ah) (inl:List ah->Nat->ah) (W:Wr ex bk tx inl):∀ (N:Nat) (t:T),aP t<=N->fQ t=true->o0 t->jF t<=1099511627776->∀ d,d+aP t<=1099511627776->(jV tx inl d t).length<=1099511627776 ->
  GF Tryz.prog 231 [.agg [.v (iG ex),.v (iG bk)],uT t,.v (ii (d:Nat))] [] (.v (sv (jV tx inl d t))) []:=by
 intro N
 induction N with
 | zero=>intro t h;rw [Go.Xp.eh] at h;omega
 | succ N ih =>
 intro t hN hk hn hw d hd hlen;have fc:=W.expr t hk hn hw;rw [Go.Xp.eh] at hN hd;rw [Go.Im.xS,Bool.and_eq_true,Go.Im.th,all_eq_true] at hk;rw [Go.Im.qR] at hn;have hwe:=Go.Im.oQ t
 have Kc:∀ (l:List T) (a:T),a∈l->aP a<=az l:=by
  intro l
  induction l with
  | nil=>intro a h;cases h
  | cons b l ih2 =>
   intro a h;rw [az]
   rcases List.mem_cons.1 h with rfl | h
   ·omega
   ·have:=ih2 a h;omega
 have ia:=fun (k:Nat) (a:T) (ni:t.kids[k]?=some a)=>Xa ex bk tx t a k ni (W.expr a (hk.2 a (mem_of_getElem? ni)) (Go.Im.jE hn.2 (mem_of_getElem? ni)) (by have:=Go.Im.tI (mem_of_getElem? ni);omega))
 have dk:∀ a∈t.kids,(nb tx inl d a).length<=1099511627776->GF Tryz.prog 197 [.agg [.v (iG ex),.v (iG bk)],uT a,.v (ii (d:Nat))] [] (.v (sv (nb tx inl d a))) []:=fun a ha UO=>by
  have h1:=Kc _ a ha;have h2:=Go.Im.tI ha;have h3:=hk.2 a ha;have h4:=Go.Im.jE hn.2 ha;rw [Go.Im.xS,Bool.and_eq_true,Go.Im.th,all_eq_true] at h3;rw [Go.Im.qR] at h4;have h5:=Go.Xp.eh a;have h6:=Go.Xp.bL a.kids;have h7:=Go.Im.oQ a
  refine y7 ex bk tx inl W a d ag ag UO fun b eJ hlb=>?_
  have h8:=Kc _ b eJ;have h9:=Go.Im.tI eJ;exact ih b ag (h3.2 b eJ) (Go.Im.jE h4.2 eJ) ag (d+1) ag hlb
 rw [N9] at hlen |-;unfold xc at hlen |-;rw [HV] at hlen |-;have rz:=@WW t;have Zg:=@Vm t hk.1
 have rz:=fun n=>@rz n hk.1
 unfold uT at fc |-;unfold uT at ia;generalize iM:t.n.kind=kd at *
 by_cases eI:kd=13
 ·subst eI
  have f13:((13:Int)==13)=true:=by decide
  rw [if_pos rfl] at hlen |-;have eT:=rz 1 (.inl ⟨rfl,.inl rfl⟩)
  obtain ⟨a,ha⟩:∃ a,t.kids=[a]:=by
   match hl:t.kids,eT with
   | [a],_=>exact ⟨a,rfl⟩
  have h0:=ia 0 a (by rw [ha];rfl);rw [ha] at hlen |-;rw [ha] at h0;simp only [List.map_cons,map_nil,getD_cons_zero,length_append,length_cons,length_nil] at hlen |-;generalize tx a=x at *;generalize cg [a]=rows at *;refine db Tryz.func231 Tryz.ntmps231 ?_;refine jh ?_;refine GL.wk (Wk.freeze (i:=0) rfl rfl rfl (Nat.zero_le _)) ?_;refine GL.wk (Wk.freeze (i:=1) rfl rfl rfl (Nat.zero_le _)) ?_;refine GN (by simp only [ou,nz];rfl) ?_;refine ae ?_;refine aI (aB 0 8 (.a 8 (aB 9 3 .nil))) ?_;refine ar ?_;refine nO [] h0 ?_;refine ar ?_;exact av
 rw [if_neg eI] at hlen |-
 have g13:(kd==13)=false:=by simpa using eI
 by_cases h7:kd=7
 ·subst h7
  have f13:((7:Int)==13)=false:=by decide
  have f7:((7:Int)==7)=true:=by decide
  rw [if_pos rfl] at hlen |-;have eT:=rz 1 (.inl ⟨rfl,.inr (.inl rfl)⟩)
  obtain ⟨a,ha⟩:∃ a,t.kids=[a]:=by
   match hl:t.kids,eT with
   | [a],_=>exact ⟨a,rfl⟩
  have h0:=ia 0 a (by rw [ha];rfl);rw [ha] at hlen |-;rw [ha] at h0;simp only [List.map_cons,map_nil,getD_cons_zero,length_append,length_cons,length_nil] at hlen |-;generalize tx a=x at *;generalize cg [a]=rows at *;refine db Tryz.func231 Tryz.ntmps231 ?_;refine jh ?_;refine GL.wk (Wk.freeze (i:=0) rfl rfl rfl (Nat.zero_le _)) ?_;refine GL.wk (Wk.freeze (i:=1) rfl rfl rfl (Nat.zero_le _)) ?_;refine GN (by simp only [ou,nz];rfl) ?_;refine ae ?_;refine aI (aB 0 7 (.a 7 (aB 8 3 .nil))) ?_;refine ar ?_;refine nO [] h0 ?_;refine ar ?_;exact av
 rw [if_neg h7] at hlen |-
 have g7:(kd==7)=false:=by simpa using h7
 by_cases h8:kd=8
 ·subst h8
  have f13:((8:Int)==13)=false:=by decide
  have f7:((8:Int)==7)=false:=by decide
  have f8:((8:Int)==8)=true:=by decide
  rw [if_pos rfl] at hlen |-;have eT:=rz 2 (.inr ⟨rfl,.inl rfl⟩)
  obtain ⟨a,b,ha⟩:∃ a b,t.kids=[a,b]:=by
   match hl:t.kids,eT with
   | [a,b],_=>exact ⟨a,b,rfl⟩
  have h0:=ia 0 a (by rw [ha];rfl);have h1:=ia 1 b (by rw [ha];rfl);rw [ha] at hlen |-;rw [ha] at h0 h1;simp only [List.map_cons,map_nil,getD_cons_zero,getD_cons_succ,length_append,length_cons,length_nil] at hlen |-;generalize tx a=x at *;generalize tx b=y at *;generalize cg [a,b]=rows at *;refine db Tryz.func231 Tryz.ntmps231 ?_;refine jh ?_;refine GL.wk (Wk.freeze (i:=0) rfl rfl rfl (Nat.zero_le _)) ?_;refine GL.wk (Wk.freeze (i:=1) rfl rfl rfl (Nat.zero_le _)) ?_;refine GN (by simp only [ou,nz];rfl) ?_;refine ae ?_;refine aI (aB 0 7 (.q 10 (.a 7 (.q 8 (.q 9 (.a 11 (aB 12 3 .nil))))))) ?_;refine ar ?_;refine nO [] h0 ?_;refine ar ?_;refine nO [] h1 ?_;refine ar ?_;exact av
 rw [if_neg h8] at hlen |-
 have g8:(kd==8)=false:=by simpa using h8
 by_cases h9:kd=9
 ·subst h9
  have f13:((9:Int)==13)=false:=by decide
  have f7:((9:Int)==7)=false:=by decide
  have f8:((9:Int)==8)=false:=by decide
  have f9:((9:Int)==9)=true:=by decide
  rw [if_pos rfl] at hlen |-
  rcases Zg rfl with eT | eT
  ·skip
   obtain ⟨a,b,ha⟩:∃ a b,t.kids=[a,b]:=by
    match hl:t.kids,eT with
    | [a,b],_=>exact ⟨a,b,rfl⟩
   have h0:=ia 0 a (by rw [ha];rfl)
   have fY:(cg [a,b])[1]?=some [uT b]:=by rw [kp];rfl
   have Fx:(cg [a,b]).length=2:=by rw [qV];rfl
   have vf:(((cg [a,b]).length:Int)==3)=false:=by rw [Fx];decide
   rw [ha] at hlen |-;rw [ha] at h0;rw [if_neg (by simp)] at hlen |-;simp only [List.map_cons,map_nil,getD_cons_zero,getD_cons_succ,length_append,length_cons,length_nil] at hlen |-;have zf:=dk b (by rw [ha];simp) ag;generalize tx a=x at *;generalize nb tx inl d b=y at *;clear dk ia ih;generalize cg [a,b]=rows at *;refine db Tryz.func231 Tryz.ntmps231 ?_;refine jh ?_;refine GL.wk (Wk.freeze (i:=0) rfl rfl rfl (Nat.zero_le _)) ?_;refine GL.wk (Wk.freeze (i:=1) rfl rfl rfl (Nat.zero_le _)) ?_;refine GN (by simp only [ou,nz];rfl) ?_;refine ae ?_;refine aI (.q 0 (aB 4 8 (.a 1 (.q 2 (.q 3 (.a 12 (.q 13 (.q 14 .nil)))))))) ?_;refine ar ?_;refine nO [] h0 ?_;refine ar ?_;refine aE [] zf ?_;exact av
  ·skip
   obtain ⟨a,b,c,ha⟩:∃ a b c,t.kids=[a,b,c]:=by
    match hl:t.kids,eT with
    | [a,b,c],_=>exact ⟨a,b,c,rfl⟩
   have h0:=ia 0 a (by rw [ha];rfl)
   have fY:(cg [a,b,c])[1]?=some [uT b]:=by rw [kp];rfl
   have dh:(cg [a,b,c])[2]?=some [uT c]:=by rw [kp];rfl
   have Fx:(cg [a,b,c]).length=3:=by rw [qV];rfl
   have vf:(((cg [a,b,c]).length:Int)==3)=true:=by rw [Fx];decide
   rw [ha] at hlen |-;rw [ha] at h0;rw [if_pos (by simp)] at hlen |-;simp only [List.map_cons,map_nil,getD_cons_zero,getD_cons_succ,length_append,length_cons,length_nil] at hlen |-;have zf:=dk b (by rw [ha];simp) ag;have eJ:=dk c (by rw [ha];simp) ag;generalize tx a=x at *;generalize nb tx inl d b=y at *;generalize nb tx inl d c=z at *;clear dk ia ih;generalize cg [a,b,c]=rows at *;refine db Tryz.func231 Tryz.ntmps231 ?_;refine jh ?_;refine GL.wk (Wk.freeze (i:=0) rfl rfl rfl (Nat.zero_le _)) ?_;refine GL.wk (Wk.freeze (i:=1) rfl rfl rfl (Nat.zero_le _)) ?_;refine GN (by simp only [ou,nz];rfl) ?_;refine ae ?_;refine aI (.q 0 (aB 4 8 (.a 1 (.q 2 (.q 3 (.a 12 (.q 13 (.q 14 .nil)))))))) ?_;refine ar ?_;refine nO [] h0 ?_;refine ar ?_;refine aE [] zf ?_;refine ae ?_;refine aI (aB 0 9 (.a 9 (aB 10 3 .nil))) ?_;refine ar ?_;refine aE [] eJ ?_;exact av
 rw [if_neg h9] at hlen |-
 have g9:(kd==9)=false:=by simpa using h9
 by_cases la:kd=10
 ·subst la
  have f13:((10:Int)==13)=false:=by decide
  have f7:((10:Int)==7)=false:=by decide
  have f8:((10:Int)==8)=false:=by decide
  have f9:((10:Int)==9)=false:=by decide
  have f10:((10:Int)==10)=true:=by decide
  rw [if_pos rfl] at hlen |-;have eT:=rz 2 (.inr ⟨rfl,.inr rfl⟩)
  ·skip
   obtain ⟨a,b,ha⟩:∃ a b,t.kids=[a,b]:=by
    match hl:t.kids,eT with
    | [a,b],_=>exact ⟨a,b,rfl⟩
   have h0:=ia 0 a (by rw [ha];rfl)
   have fY:(cg [a,b])[1]?=some [uT b]:=by rw [kp];rfl
   have Fx:(cg [a,b]).length=2:=by rw [qV];rfl
   have vf:(((cg [a,b]).length:Int)==3)=false:=by rw [Fx];decide
   rw [ha] at hlen |-;rw [ha] at h0;simp only [List.map_cons,map_nil,getD_cons_zero,getD_cons_succ,length_append,length_cons,length_nil] at hlen |-;have zf:=dk b (by rw [ha];simp) ag;generalize tx a=x at *;generalize nb tx inl d b=y at *;clear dk ia ih;generalize cg [a,b]=rows at *;refine db Tryz.func231 Tryz.ntmps231 ?_;refine jh ?_;refine GL.wk (Wk.freeze (i:=0) rfl rfl rfl (Nat.zero_le _)) ?_;refine GL.wk (Wk.freeze (i:=1) rfl rfl rfl (Nat.zero_le _)) ?_;refine GN (by simp only [ou,nz];rfl) ?_;refine ae ?_;refine aI (.q 0 (aB 4 8 (.a 1 (.q 2 (.q 3 (.a 12 (.q 13 (.q 14 .nil)))))))) ?_;refine ar ?_;refine nO [] h0 ?_;refine ar ?_;refine aE [] zf ?_;exact av
 rw [if_neg la] at hlen |-
 have g10:(kd==10)=false:=by simpa using la
 by_cases oD:kd=11
 ·subst oD
  have f13:((11:Int)==13)=false:=by decide
  have f7:((11:Int)==7)=false:=by decide
  have f8:((11:Int)==8)=false:=by decide
  have f9:((11:Int)==9)=false:=by decide
  have f10:((11:Int)==10)=false:=by decide
  have f11:((11:Int)==11)=true:=by decide
  rw [if_pos rfl] at hlen |-;have eT:=rz 1 (.inl ⟨rfl,.inr (.inr (.inl rfl))⟩)
  obtain ⟨a,ha⟩:∃ a,t.kids=[a]:=by
   match hl:t.kids,eT with
   | [a],_=>exact ⟨a,rfl⟩
  have h0:=ia 0 a (by rw [ha];rfl);rw [ha] at hlen |-;rw [ha] at h0;simp only [List.map_cons,map_nil,getD_cons_zero,length_append,length_cons,length_nil] at hlen |-;generalize tx a=x at *;generalize cg [a]=rows at *;refine db Tryz.func231 Tryz.ntmps231 ?_;refine jh ?_;refine GL.wk (Wk.freeze (i:=0) rfl rfl rfl (Nat.zero_le _)) ?_;refine GL.wk (Wk.freeze (i:=1) rfl rfl rfl (Nat.zero_le _)) ?_;refine GN (by simp only [ou,nz];rfl) ?_;refine ae ?_;refine kZ [] h0 ?_;exact av
 rw [if_neg oD] at hlen |-
 have g11:(kd==11)=false:=by simpa using oD
 by_cases oa:kd=12
 ·subst oa
  have f13:((12:Int)==13)=false:=by decide
  have f7:((12:Int)==7)=false:=by decide
  have f8:((12:Int)==8)=false:=by decide
  have f9:((12:Int)==9)=false:=by decide
  have f10:((12:Int)==10)=false:=by decide
  have f11:((12:Int)==11)=false:=by decide
  have f12:((12:Int)==12)=true:=by decide
  rw [if_pos rfl] at hlen |-;have eT:=rz 1 (.inl ⟨rfl,.inr (.inr (.inr rfl))⟩)
  obtain ⟨a,ha⟩:∃ a,t.kids=[a]:=by
   match hl:t.kids,eT with
   | [a],_=>exact ⟨a,rfl⟩
  have h0:=ia 0 a (by rw [ha];rfl);rw [ha] at hlen |-;rw [ha] at h0;simp only [List.map_cons,map_nil,getD_cons_zero,length_append,length_cons,length_nil] at hlen |-;generalize tx a=x at *;generalize cg [a]=rows at *;refine db Tryz.func231 Tryz.ntmps231 ?_;refine jh ?_;refine GL.wk (Wk.freeze (i:=0) rfl rfl rfl (Nat.zero_le _)) ?_;refine GL.wk (Wk.freeze (i:=1) rfl rfl rfl (Nat.zero_le _)) ?_;refine GN (by simp only [ou,nz];rfl) ?_;refine ae ?_;refine kZ [] h0 ?_;exact av
 rw [if_neg oa] at hlen |-
 have g12:(kd==12)=false:=by simpa using oa
 clear dk ia ih;generalize tx t=x at *;refine db Tryz.func231 Tryz.ntmps231 ?_;refine jh ?_;refine GL.wk (Wk.freeze (i:=0) rfl rfl rfl (Nat.zero_le _)) ?_;refine GL.wk (Wk.freeze (i:=1) rfl rfl rfl (Nat.zero_le _)) ?_;refine GN (by simp only [ou,nz];rfl) ?_;refine ae ?_;refine iD [] fc ?_;exact av
end Go.Xg
namespace Go.Xg
open Go.RowKit Go.Xw Go.Proofs
open Go.Xp (Tok Nd T Ar levels cD bC aP az)
open Go.Sp (Src)
open Go.Im
attribute [local irreducible] GW GL GO YG GC GA aV aZ
theorem PV (ex bk:FuncId) [he:aH Tryz.prog ex] [hb:aH Tryz.prog bk] (tx:T->ah) (inl:List ah->Nat->ah) (W:Wr ex bk tx inl) (p:Src) (trees:List T) (hlen:(mW tx inl p trees).length<=1099511627776) (hft:p.fns.length=trees.length)
  (hg:p.globals.length<=1099511627776) (ha:p.arrays.length<=1099511627776) (hf:p.fns.length<=1099511627776) (jq:∀ a∈p.arrays,-9223372036854775808<=a.size/\a.size<=9223372036854775807) (Dh:∀ f∈p.fns,f.params.length<=1099511627776)
  (ht:∀ t∈trees,fQ t=true/\o0 t/\jF t<=1099511627776/\aP t+1<=1099511627776) :
  GF Tryz.prog 159 [.agg (ax p),.sl 1 (cg trees),.v (iG ex),.v (iG bk)] [] (.v (sv (mW tx inl p trees))) []:=by
 have XW:(p.globals.map fun s=>[GV.v (sv s)]).length=p.globals.length:=by simp
 have kz:(p.arrays.map aD).length=p.arrays.length:=by simp
 have XV:(p.fns.map aw).length=p.fns.length:=by simp
 have l2:=BW (f1 tx inl) (p.fns.zip trees) (dj a1 (dj g1 [] p.globals) p.arrays);have l1:=BW a1 p.arrays (dj g1 [] p.globals);unfold mW at hlen |-;refine ai Tryz.func159 Tryz.ntmps159 ?_;refine GW.wk (Wk.Cr (t:=9) (a:=none) (c:=0) 5 1 rfl) ?_;refine GW.range (p.globals.map fun s=>[GV.v (sv s)]).length (fun k fr Γ=>∃ acc m rows,fr=[.U,.sl 1 (cg trees),.v (iG ex),.v (iG bk),.loc 0 0,.U,.U,.U,.U,.vec 1 m,.U,.U,.U,.U,.U,.U,.U,.U,strs p.globals,.v (ii ((p.globals.map fun s=>[GV.v (sv s)]).length:Int)),.v (ii (k:Nat)),.U,.U,.U,.U,.U,.U,.U,.U,.U,.U,.U,.U,.U,.U,.U,.U,.U,.U,.U,.U,.U,.U,.U,.U,.U,.U,.U,.U,.U,.U,.U,.U,.U,.U,.U,.U,.U,.U,.U,.U,.U,.U,.U,.U,.U,.U,.U,.U,.U,.U,.U,.U,.U,.U,.U,.U,.U,.U,.U,.U,.U]/\Γ=[.box 34 (ax p),.vec 5 1 0 rows]/\rows.length=m/\rows=cr acc/\acc=dj g1 [] (p.globals.take k)) ?_ ag ?_ ?_ ?_
 ·exact ⟨_,_,Wk.aC aq,[],0,[],rfl,rfl,rfl,rfl,rfl⟩
 ·rintro k _ _ ⟨acc,m,rows,rfl,rfl,_⟩;exact dQ
 ·rintro k _ _ ak ⟨acc,m,rows,rfl,rfl,hm,bt,kV⟩;rw [XW] at ak
  have cJ:p.globals[k]?=some p.globals[k]:=by simp [ak]
  have sY:(p.globals.map fun s=>[GV.v (sv s)])[k]?=some [.v (sv p.globals[k])]:=by rw [getElem?_map,cJ];rfl
  have bu:dj g1 [] (p.globals.take (k+1))=acc++g1 p.globals[k]:=by rw [take_add_one,cJ,kV];exact xh g1 _ _ _
  have hle:=xi g1 p.globals (k+1) [];rw [bu,length_append] at hle
  have XX:rows.length=acc.length:=by rw [bt];simp [cr]
  generalize p.globals[k]=z at *
  have hz:(g1 z).length=z.length+6:=by unfold g1;simp
  refine ae ?_;refine GL.BO (str:=g1 z) rfl rfl rfl aR rfl ag ?_;refine bJ ?_;refine ae ?_;exact ⟨rfl,rfl,_,_,Wk.aC aq,acc++g1 z,_,_,rfl,rfl,by rw [length_append,hm];simp [cr],by rw [bt];exact (tP acc (g1 z)).symm,bu.symm⟩
 ·rintro _ _ ⟨acc,m,rows,rfl,rfl,hm,bt,kV⟩;rw [XW,take_length] at kV;rw [<-kV] at hlen l1 l2 |-;refine bb ?_;refine ae ?_;refine GW.range (p.arrays.map aD).length (fun k fr Γ=>∃ qA m rows,fr=[.U,.sl 1 (cg trees),.v (iG ex),.v (iG bk),.loc 0 0,.U,.U,.U,.U,.vec 1 m,.U,.U,.U,.U,.U,.U,.U,.U,.U,.U,.U,.U,.U,.U,.U,.U,.U,.U,.U,.U,.U,.sl 2 (p.arrays.map aD),.v (ii ((p.arrays.map aD).length:Int)),.v (ii (k:Nat)),.U,.U,.U,.U,.U,.U,.U,.U,.U,.U,.U,.U,.U,.U,.U,.U,.U,.U,.U,.U,.U,.U,.U,.U,.U,.U,.U,.U,.U,.U,.U,.U,.U,.U,.U,.U,.U,.U,.U,.U,.U,.U,.U,.U,.U,.U,.U,.U]/\Γ=[.box 34 (ax p),.vec 5 1 0 rows]/\rows.length=m/\rows=cr qA/\qA=dj a1 acc (p.arrays.take k)) ?_ ag ?_ ?_ ?_
  ·exact ⟨_,_,Wk.aC aq,acc,m,rows,rfl,rfl,hm,bt,rfl⟩
  ·rintro k _ _ ⟨qA,m,rows,rfl,rfl,_⟩;exact dQ
  ·clear hm bt;rintro k _ _ ak ⟨qA,m,rows,rfl,rfl,hm,bt,D8⟩;rw [kz] at ak
   have cJ:p.arrays[k]?=some p.arrays[k]:=by simp [ak]
   have sY:(p.arrays.map aD)[k]?=some (aD p.arrays[k]):=by rw [getElem?_map,cJ];rfl
   have bu:dj a1 acc (p.arrays.take (k+1))=qA++a1 p.arrays[k]:=by rw [take_add_one,cJ,D8];exact xh a1 _ _ _
   have hle:=xi a1 p.arrays (k+1) acc;rw [bu,length_append] at hle
   have XX:rows.length=qA.length:=by rw [bt];simp [cr]
   have xO:=jq p.arrays[k] (getElem_mem ak);generalize p.arrays[k]=z at *;have hit:=LA z.size xO.1 xO.2;have r7:=xR xO
   have hz:(a1 z).length=z.name.length+(nX z.size).length+8:=by unfold a1;simp;omega
   unfold aD at sY;refine ae ?_;refine aI (aB 0 7 (.a 7 (.q 8 (.q 9 (.a 10 (.q 11 .nil)))))) ?_;refine ar ?_;refine aE [] hit ?_;refine OA rfl rfl (GL.BO (str:=a1 z) rfl rfl rfl aR rfl ag (GL.nil (bb (et.mk (by repeat (first | exact gD.n | (apply gD.w;(· decide +kernel)) | (apply gD.y;(· first | (apply YQ.t;(· exact rfl);(· exact rfl);(· (first | (apply K.ld;first | exact YG.Du rfl rfl aR | exact YG.xX rfl rfl rfl rfl | exact YG.ldV rfl rfl aR aR aR | exact YG.xW rfl rfl aR aR aR) | (apply K.idx;first | exact YG.idxV rfl rfl rfl aR ag | exact YG.cv 0 rfl rfl rfl bQ | exact YG.cv 1 rfl rfl rfl bQ | exact YG.cv 2 rfl rfl rfl bQ | exact YG.cv 3 rfl rfl rfl bQ | exact YG.cv 4 rfl rfl rfl bQ | exact YG.cv 5 rfl rfl rfl bQ | exact YG.cv 6 rfl rfl rfl bQ) | (apply K.AM;first | exact YG.fldV rfl rfl aR | exact YG.xr rfl rfl aR) | exact YG.rN 1 rfl rfl aR aR | exact YG.mv | exact YG.tN | (apply K.bin;first | exact YG.go rfl | exact YG.uw rfl rfl ag | exact YG.vU rfl rfl | exact YG.wy rfl rfl | exact YG.AL rfl rfl | exact YG.Bm rfl rfl | exact YG.cat rfl rfl ag | exact YG.cat rfl rfl (by simp only [length_append,length_cons,length_nil];omega) | exact YG.dM rfl rfl ag | exact YG.add rfl rfl ag | exact YG.sub rfl rfl ag | exact YG.mul rfl rfl ag | exact YG.Aw rfl rfl ag | exact YG.quo rfl rfl ag | exact YG.rem rfl rfl ag | exact YG.sk rfl rfl) | exact qi | (apply K.ld;first | exact YG.Dt rfl aR | exact YG.xV rfl rfl rfl) | exact qj | exact nP | (apply K.pick;first | exact YG.zB rfl aR | exact YG.zA rfl aR) | (apply K.idx;first | exact YG.sj rfl rfl bD | exact YG.jt rfl rfl bD rfl | exact YG.jt rfl rfl bD ag | exact YG.uD rfl rfl ag) | exact YG.ext rfl rfl | exact YG.go rfl | (apply K.Gn;first | exact YG.Av rfl rfl rfl ag | exact YG.Au rfl rfl ag | exact YG.Aq rfl rfl ag | exact YG.tD 1 rfl rfl rfl aR) | exact YG.qK rfl rfl bD | exact YG.idxSC rfl rfl bD rfl | exact oP | exact YG.build rfl | exact YG.neg rfl ag | exact YG.qF rfl rfl | exact YG.xk rfl (by first | rfl | exact IntWalk.i64_in _ ag | exact IntWalk.u8_in _ ag | assumption) | exact YG.str rfl aR))) | (apply YQ.t;(· exact rfl);(· apply zS;(· exact rfl);(· first | exact rfl | assumption));(· (first | (apply K.ld;first | exact YG.Du rfl rfl aR | exact YG.xX rfl rfl rfl rfl | exact YG.ldV rfl rfl aR aR aR | exact YG.xW rfl rfl aR aR aR) | (apply K.idx;first | exact YG.idxV rfl rfl rfl aR ag | exact YG.cv 0 rfl rfl rfl bQ | exact YG.cv 1 rfl rfl rfl bQ | exact YG.cv 2 rfl rfl rfl bQ | exact YG.cv 3 rfl rfl rfl bQ | exact YG.cv 4 rfl rfl rfl bQ | exact YG.cv 5 rfl rfl rfl bQ | exact YG.cv 6 rfl rfl rfl bQ) | (apply K.AM;first | exact YG.fldV rfl rfl aR | exact YG.xr rfl rfl aR) | exact YG.rN 1 rfl rfl aR aR | exact YG.mv | exact YG.tN | (apply K.bin;first | exact YG.go rfl | exact YG.uw rfl rfl ag | exact YG.vU rfl rfl | exact YG.wy rfl rfl | exact YG.AL rfl rfl | exact YG.Bm rfl rfl | exact YG.cat rfl rfl ag | exact YG.cat rfl rfl (by simp only [length_append,length_cons,length_nil];omega) | exact YG.dM rfl rfl ag | exact YG.add rfl rfl ag | exact YG.sub rfl rfl ag | exact YG.mul rfl rfl ag | exact YG.Aw rfl rfl ag | exact YG.quo rfl rfl ag | exact YG.rem rfl rfl ag | exact YG.sk rfl rfl) | exact qi | (apply K.ld;first | exact YG.Dt rfl aR | exact YG.xV rfl rfl rfl) | exact qj | exact nP | (apply K.pick;first | exact YG.zB rfl aR | exact YG.zA rfl aR) | (apply K.idx;first | exact YG.sj rfl rfl bD | exact YG.jt rfl rfl bD rfl | exact YG.jt rfl rfl bD ag | exact YG.uD rfl rfl ag) | exact YG.ext rfl rfl | exact YG.go rfl | (apply K.Gn;first | exact YG.Av rfl rfl rfl ag | exact YG.Au rfl rfl ag | exact YG.Aq rfl rfl ag | exact YG.tD 1 rfl rfl rfl aR) | exact YG.qK rfl rfl bD | exact YG.idxSC rfl rfl bD rfl | exact oP | exact YG.build rfl | exact YG.neg rfl ag | exact YG.qF rfl rfl | exact YG.xk rfl (by first | rfl | exact IntWalk.i64_in _ ag | exact IntWalk.u8_in _ ag | assumption) | exact YG.str rfl aR))) | (apply YQ.f;(· exact rfl);(· apply B6;(· exact rfl);(· first | exact rfl | assumption))))))) ?_))))
   refine Ox ?_;refine bf ?_;exact ⟨rfl,rfl,_,_,(Wk.cut (n:=2) (Nat.zero_le _) rfl).trans (Wk.aC aq),qA++a1 z,_,_,rfl,rfl,by rw [length_append,hm];simp [cr],by rw [bt];exact (tP qA (a1 z)).symm,bu.symm⟩
  ·clear hm bt;rintro _ _ ⟨qA,m,rows,rfl,rfl,hm,bt,D8⟩;rw [kz,take_length] at D8;rw [<-D8] at hlen l2 |-
   have xL:∀ (k:Nat) (f:Go.Sp.Fn),p.fns[k]?=some f->f.params.length<=1099511627776:=fun k f h=>Dh f (mem_of_getElem? h)
   refine bb ?_;refine ae ?_;refine GW.range (p.fns.map aw).length (fun k fr Γ=>∃ uv m rows,fr=[.U,.sl 1 (cg trees),.U,.U,.U,.U,.U,.U,.U,.vec 1 m,.U,.U,.U,.U,.loc 2 0,.U,.U,.U,.U,.U,.U,.U,.U,.U,.U,.U,.U,.U,.U,.U,.U,.U,.U,.U,.U,.U,.U,.U,.U,.U,.U,.U,.U,.U,.U,.U,.U,.U,.U,.U,.U,.U,.U,.sl 3 (p.fns.map aw),.v (ii ((p.fns.map aw).length:Int)),.v (ii (k:Nat)),.U,.U,.U,.U,.U,.U,.U,.U,.U,.U,.U,.U,.U,.U,.U,.U,.U,.U,.U,.U,.U,.U,.U,.U,.U,.U]/\Γ=[.box 34 (ax p),.vec 5 1 0 rows,.box 192 [.v (iG ex),.v (iG bk)]]/\rows.length=m/\rows=cr uv/\uv=dj (f1 tx inl) qA ((p.fns.zip trees).take k)) ?_ ag ?_ ?_ ?_
   ·exact ⟨_,_,Wk.aC aq,qA,m,rows,rfl,rfl,hm,bt,rfl⟩
   ·rintro k _ _ ⟨uv,m,rows,rfl,rfl,_⟩;exact dQ
   ·clear hm bt;rintro k _ _ ak ⟨uv,m,rows,rfl,rfl,hm,bt,D9⟩;rw [XV] at ak
    have mU:k < trees.length:=by omega
    have cJ:p.fns[k]?=some p.fns[k]:=by simp [ak]
    have wZ:trees[k]?=some trees[k]:=by simp [mU]
    have sY:(p.fns.map aw)[k]?=some (aw p.fns[k]):=by rw [getElem?_map,cJ];rfl
    have aam:=vy wZ
    have hkz:(p.fns.zip trees)[k]?=some (p.fns[k],trees[k]):=by rw [List.getElem?_zip_eq_some];exact ⟨cJ,wZ⟩
    have bu:dj (f1 tx inl) qA ((p.fns.zip trees).take (k+1))=uv++f1 tx inl (p.fns[k],trees[k]):=by rw [take_add_one,hkz,D9];exact xh (f1 tx inl) _ _ _
    have hle:=xi (f1 tx inl) (p.fns.zip trees) (k+1) qA;rw [bu,length_append] at hle
    have XX:rows.length=uv.length:=by rw [bt];simp [cr]
    obtain ⟨q1,q2,q3,q4⟩:=ht trees[k] (getElem_mem mU);have hpk:=xL k _ cJ;generalize p.fns[k]=f at *;generalize trees[k]=t at *
    have hz:(f1 tx inl (f,t)).length=f.name.length+(bC f.params).length+(nb tx inl 0 t).length+9:=by unfold f1;simp;omega
    have hJ:=LB f.params ag hpk
    have Kc:∀ (l:List T) (a:T),a∈l->aP a<=az l:=by
     intro l
     induction l with
     | nil=>intro a h;cases h
     | cons b l ih2 =>
      intro a h;rw [az]
      rcases List.mem_cons.1 h with rfl | h
      ·omega
      ·have:=ih2 a h;omega
    have hB:=y7 ex bk tx inl W t 0 ag (by have:=Go.Xp.bL t.kids;have:=Go.Xp.eh t;omega) ag fun a MS UO=>by
     have h1:=Kc _ a MS;have h2:=Go.Xp.eh t;have h3:=tI MS;have h4:=oQ t;rw [xS,Bool.and_eq_true,th,all_eq_true] at q1;rw [qR] at q2;exact HK ex bk tx inl W _ a (Nat.le_refl _) (q1.2 a MS) (jE q2.2 MS) ag (0+1) ag UO
    unfold aw at sY;refine ae ?_;refine aI (aB 0 7 (aB 10 5 (.a 7 (.q 8 (.q 9 (.a 15 (.q 16 (.q 17 (.a 18 (.q 19 .nil)))))))))) ?_;refine ar ?_;refine aE [] hJ ?_;refine aE [] hB ?_;refine OA rfl rfl (GL.BO (str:=f1 tx inl (f,t)) rfl rfl rfl aR rfl ag (GL.nil (bb (et.mk (by repeat (first | exact gD.n | (apply gD.w;(· decide +kernel)) | (apply gD.y;(· first | (apply YQ.t;(· exact rfl);(· exact rfl);(· (first | (apply K.ld;first | exact YG.Du rfl rfl aR | exact YG.xX rfl rfl rfl rfl | exact YG.ldV rfl rfl aR aR aR | exact YG.xW rfl rfl aR aR aR) | (apply K.idx;first | exact YG.idxV rfl rfl rfl aR ag | exact YG.cv 0 rfl rfl rfl bQ | exact YG.cv 1 rfl rfl rfl bQ | exact YG.cv 2 rfl rfl rfl bQ | exact YG.cv 3 rfl rfl rfl bQ | exact YG.cv 4 rfl rfl rfl bQ | exact YG.cv 5 rfl rfl rfl bQ | exact YG.cv 6 rfl rfl rfl bQ) | (apply K.AM;first | exact YG.fldV rfl rfl aR | exact YG.xr rfl rfl aR) | exact YG.rN 1 rfl rfl aR aR | exact YG.mv | exact YG.tN | (apply K.bin;first | exact YG.go rfl | exact YG.uw rfl rfl ag | exact YG.vU rfl rfl | exact YG.wy rfl rfl | exact YG.AL rfl rfl | exact YG.Bm rfl rfl | exact YG.cat rfl rfl ag | exact YG.cat rfl rfl (by simp only [length_append,length_cons,length_nil];omega) | exact YG.dM rfl rfl ag | exact YG.add rfl rfl ag | exact YG.sub rfl rfl ag | exact YG.mul rfl rfl ag | exact YG.Aw rfl rfl ag | exact YG.quo rfl rfl ag | exact YG.rem rfl rfl ag | exact YG.sk rfl rfl) | exact qi | (apply K.ld;first | exact YG.Dt rfl aR | exact YG.xV rfl rfl rfl) | exact qj | exact nP | (apply K.pick;first | exact YG.zB rfl aR | exact YG.zA rfl aR) | (apply K.idx;first | exact YG.sj rfl rfl bD | exact YG.jt rfl rfl bD rfl | exact YG.jt rfl rfl bD ag | exact YG.uD rfl rfl ag) | exact YG.ext rfl rfl | exact YG.go rfl | (apply K.Gn;first | exact YG.Av rfl rfl rfl ag | exact YG.Au rfl rfl ag | exact YG.Aq rfl rfl ag | exact YG.tD 1 rfl rfl rfl aR) | exact YG.qK rfl rfl bD | exact YG.idxSC rfl rfl bD rfl | exact oP | exact YG.build rfl | exact YG.neg rfl ag | exact YG.qF rfl rfl | exact YG.xk rfl (by first | rfl | exact IntWalk.i64_in _ ag | exact IntWalk.u8_in _ ag | assumption) | exact YG.str rfl aR))) | (apply YQ.t;(· exact rfl);(· apply zS;(· exact rfl);(· first | exact rfl | assumption));(· (first | (apply K.ld;first | exact YG.Du rfl rfl aR | exact YG.xX rfl rfl rfl rfl | exact YG.ldV rfl rfl aR aR aR | exact YG.xW rfl rfl aR aR aR) | (apply K.idx;first | exact YG.idxV rfl rfl rfl aR ag | exact YG.cv 0 rfl rfl rfl bQ | exact YG.cv 1 rfl rfl rfl bQ | exact YG.cv 2 rfl rfl rfl bQ | exact YG.cv 3 rfl rfl rfl bQ | exact YG.cv 4 rfl rfl rfl bQ | exact YG.cv 5 rfl rfl rfl bQ | exact YG.cv 6 rfl rfl rfl bQ) | (apply K.AM;first | exact YG.fldV rfl rfl aR | exact YG.xr rfl rfl aR) | exact YG.rN 1 rfl rfl aR aR | exact YG.mv | exact YG.tN | (apply K.bin;first | exact YG.go rfl | exact YG.uw rfl rfl ag | exact YG.vU rfl rfl | exact YG.wy rfl rfl | exact YG.AL rfl rfl | exact YG.Bm rfl rfl | exact YG.cat rfl rfl ag | exact YG.cat rfl rfl (by simp only [length_append,length_cons,length_nil];omega) | exact YG.dM rfl rfl ag | exact YG.add rfl rfl ag | exact YG.sub rfl rfl ag | exact YG.mul rfl rfl ag | exact YG.Aw rfl rfl ag | exact YG.quo rfl rfl ag | exact YG.rem rfl rfl ag | exact YG.sk rfl rfl) | exact qi | (apply K.ld;first | exact YG.Dt rfl aR | exact YG.xV rfl rfl rfl) | exact qj | exact nP | (apply K.pick;first | exact YG.zB rfl aR | exact YG.zA rfl aR) | (apply K.idx;first | exact YG.sj rfl rfl bD | exact YG.jt rfl rfl bD rfl | exact YG.jt rfl rfl bD ag | exact YG.uD rfl rfl ag) | exact YG.ext rfl rfl | exact YG.go rfl | (apply K.Gn;first | exact YG.Av rfl rfl rfl ag | exact YG.Au rfl rfl ag | exact YG.Aq rfl rfl ag | exact YG.tD 1 rfl rfl rfl aR) | exact YG.qK rfl rfl bD | exact YG.idxSC rfl rfl bD rfl | exact oP | exact YG.build rfl | exact YG.neg rfl ag | exact YG.qF rfl rfl | exact YG.xk rfl (by first | rfl | exact IntWalk.i64_in _ ag | exact IntWalk.u8_in _ ag | assumption) | exact YG.str rfl aR))) | (apply YQ.f;(· exact rfl);(· apply B6;(· exact rfl);(· first | exact rfl | assumption))))))) ?_))))
    refine Ox ?_;refine bf ?_;exact ⟨rfl,rfl,_,_,(Wk.cut (n:=3) (Nat.zero_le _) rfl).trans (Wk.aC aq),uv++f1 tx inl (f,t),_,_,rfl,rfl,by rw [length_append,hm];simp [cr],by rw [bt];exact (tP uv _).symm,bu.symm⟩
   ·clear hm bt;rintro _ _ ⟨uv,m,rows,rfl,rfl,hm,bt,D9⟩;rw [XV,show (p.fns.zip trees).take p.fns.length=p.fns.zip trees from take_of_length_le (by simp;omega)] at D9;rw [<-D9] at hlen |-;refine bb ?_;refine GW.wk (Wk.jx (t:=9) rfl rfl rfl hm) ?_
    have aab:rows=uv.map fun c=>[.v (.int .u8 (c.toNat:Int))]:=bt
    exact av
end Go.Xg
namespace Go.Xg
open Go.RowKit Go.Xw Go.Proofs
open Go.Im (fg rv ry sR lN nw)
attribute [local irreducible] GW GL GO YG GC GA aV aZ
theorem HO (a b:List ah) (ha:a.length<=1099511627776) (hb:b.length<=1099511627776):GF Tryz.prog 164 [strs a,strs b] [] (.v (.bool (fg (fun x y=>x==y) a b))) []:=by
 have kz:(a.map fun s=>[GV.v (sv s)]).length=a.length:=by simp
 have qt:(b.map fun s=>[GV.v (sv s)]).length=b.length:=by simp
 by_cases hl:a.length=b.length
 ·have hd:(((a.map fun s=>[GV.v (sv s)]).length:Int) != ((b.map fun s=>[GV.v (sv s)]).length:Int))=false:=by rw [kz,qt,hl];simp
  refine ai Tryz.func164 Tryz.ntmps164 ?_;refine GW.range (a.map fun s=>[GV.v (sv s)]).length (fun k fr Γ=>fr=[strs a,strs b,.U,.U,.U,.U,.U,.U,.U,.U,.U,.U,.v (ii ((a.map fun s=>[GV.v (sv s)]).length:Int)),.v (ii (k:Nat)),.U,.U,.U,.U,.U,.U,.U,.U,.U,.U,.U,.U]/\Γ=[]/\sR (fun x y=>x==y) a b k) ?_ ag ?_ ?_ ?_
  ·exact ⟨_,_,Wk.aC aq,rfl,rfl,fun j x y h=>by omega⟩
  ·exact gy
  ·rintro k _ _ ak ⟨rfl,rfl,kC⟩;rw [kz] at ak
   have ni:a[k]?=some a[k]:=by simp [ak]
   have pR:k < b.length:=by omega
   have oG:b[k]?=some b[k]:=by simp [pR]
   have Fv:(a.map fun s=>[GV.v (sv s)])[k]?=some [GV.v (sv a[k])]:=by rw [getElem?_map,ni];rfl
   have Fw:(b.map fun s=>[GV.v (sv s)])[k]?=some [GV.v (sv b[k])]:=by rw [getElem?_map,oG];rfl
   generalize a[k]=x at *;generalize b[k]=y at *
   cases iV:(x==y) with
   | true =>
    have hn:(x != y)=false:=by simp only [bne,iV];rfl
    have bO:(!(x==y))=false:=by rw [iV];rfl
    refine ae ?_;refine aI (aB 0 9 .nil) ?_;refine bf ?_;exact ⟨rfl,rfl,_,_,Wk.aC aq,rfl,rfl,lN ni oG kC iV⟩
   | false =>
    have hn:(x != y)=true:=by simp only [bne,iV];rfl
    have bO:(!(x==y))=true:=by rw [iV];rfl
    rw [ry ni oG (p:=fun x y=>x==y) iV];refine ae ?_;refine aI (aB 0 9 .nil) ?_;refine ar ?_;exact av
  ·rintro _ _ ⟨rfl,rfl,kC⟩;rw [kz] at kC;rw [nw hl kC];exact av
 ·have hd:(((a.map fun s=>[GV.v (sv s)]).length:Int) != ((b.map fun s=>[GV.v (sv s)]).length:Int))=true:=by rw [kz,qt];simpa using by omega
  rw [rv hl];refine ai Tryz.func164 Tryz.ntmps164 ?_;exact al
theorem Sa (a b:List Int) (ha:a.length<=1099511627776) (hb:b.length<=1099511627776):GF Tryz.prog 208 [ints a,ints b] [] (.v (.bool (fg (fun x y=>x==y) a b))) []:=by
 have kz:(a.map fun s=>[GV.v (ii s)]).length=a.length:=by simp
 have qt:(b.map fun s=>[GV.v (ii s)]).length=b.length:=by simp
 by_cases hl:a.length=b.length
 ·have hd:(((a.map fun s=>[GV.v (ii s)]).length:Int) != ((b.map fun s=>[GV.v (ii s)]).length:Int))=false:=by rw [kz,qt,hl];simp
  refine ai Tryz.func208 Tryz.ntmps208 ?_;refine GW.range (a.map fun s=>[GV.v (ii s)]).length (fun k fr Γ=>fr=[ints a,ints b,.U,.U,.U,.U,.U,.U,.U,.U,.U,.U,.v (ii ((a.map fun s=>[GV.v (ii s)]).length:Int)),.v (ii (k:Nat)),.U,.U,.U,.U,.U,.U,.U,.U,.U,.U,.U,.U]/\Γ=[]/\sR (fun x y=>x==y) a b k) ?_ ag ?_ ?_ ?_
  ·exact ⟨_,_,Wk.aC aq,rfl,rfl,fun j x y h=>by omega⟩
  ·exact gy
  ·rintro k _ _ ak ⟨rfl,rfl,kC⟩;rw [kz] at ak
   have ni:a[k]?=some a[k]:=by simp [ak]
   have pR:k < b.length:=by omega
   have oG:b[k]?=some b[k]:=by simp [pR]
   have Fv:(a.map fun s=>[GV.v (ii s)])[k]?=some [GV.v (ii a[k])]:=by rw [getElem?_map,ni];rfl
   have Fw:(b.map fun s=>[GV.v (ii s)])[k]?=some [GV.v (ii b[k])]:=by rw [getElem?_map,oG];rfl
   generalize a[k]=x at *;generalize b[k]=y at *
   cases iV:(x==y) with
   | true =>
    have hn:(x != y)=false:=by simp only [bne,iV];rfl
    have bO:(!(x==y))=false:=by rw [iV];rfl
    refine ae ?_;refine aI (aB 0 9 .nil) ?_;refine bf ?_;exact ⟨rfl,rfl,_,_,Wk.aC aq,rfl,rfl,lN ni oG kC iV⟩
   | false =>
    have hn:(x != y)=true:=by simp only [bne,iV];rfl
    have bO:(!(x==y))=true:=by rw [iV];rfl
    rw [ry ni oG (p:=fun x y=>x==y) iV];refine ae ?_;refine aI (aB 0 9 .nil) ?_;refine ar ?_;exact av
  ·rintro _ _ ⟨rfl,rfl,kC⟩;rw [kz] at kC;rw [nw hl kC];exact av
 ·have hd:(((a.map fun s=>[GV.v (ii s)]).length:Int) != ((b.map fun s=>[GV.v (ii s)]).length:Int))=true:=by rw [kz,qt];simpa using by omega
  rw [rv hl];refine ai Tryz.func208 Tryz.ntmps208 ?_;exact al
end Go.Xg
namespace Go.Xg
open Go.RowKit Go.Xw Go.Proofs
open Go.Xp (Nd)
open Go.Im (rj kF fg rv ry sR lN nw)
attribute [local irreducible] GW GL GO YG GC GA aV aZ
theorem Qn (a b:Go.Sp.Fn) (ha:a.params.length<=1099511627776) (hb:b.params.length<=1099511627776):GF Tryz.prog 167 [.agg (aw a),.agg (aw b)] [] (.v (.bool (rj a b))) []:=by
 have he:=HO a.params b.params ha hb;unfold rj aw
 cases h1:(a.name==b.name) with
 | false =>
  refine ai Tryz.func167 Tryz.ntmps167 ?_;exact al
 | true =>
  cases h2:fg (fun x y=>x==y) a.params b.params with
  | false =>
   rw [h2] at he;refine ai Tryz.func167 Tryz.ntmps167 ?_;refine ab [] he ?_;exact al
  | true =>
   rw [h2] at he;refine ai Tryz.func167 Tryz.ntmps167 ?_;refine ab [] he ?_;exact al
theorem KY (a b:Nd) (ha:a.kids.length<=1099511627776) (hb:b.kids.length<=1099511627776):GF Tryz.prog 169 [.agg (ay a),.agg (ay b)] [] (.v (.bool (kF a b))) []:=by
 have he:=Sa a.kids b.kids ha hb;unfold kF ay;generalize fg (fun x y=>x==y) a.kids b.kids=q at *
 cases h1:(a.kind==b.kind) with
 | false =>
  refine ai Tryz.func169 Tryz.ntmps169 ?_;exact al
 | true =>
  cases h2:(a.n==b.n) with
  | false =>
   refine ai Tryz.func169 Tryz.ntmps169 ?_;exact al
  | true =>
   cases h3:(a.s==b.s) with
   | false =>
    refine ai Tryz.func169 Tryz.ntmps169 ?_;exact al
   | true =>
    refine ai Tryz.func169 Tryz.ntmps169 ?_;refine ab [] he ?_;exact al
theorem G4 (a b:List Go.Sp.Fn) (ha:a.length<=1099511627776) (hb:b.length<=1099511627776) (ka:∀ x∈a,x.params.length<=1099511627776) (kb:∀ x∈b,x.params.length<=1099511627776) :
  GF Tryz.prog 166 [.sl 3 (a.map aw),.sl 3 (b.map aw),.v (.func (.func 167) #[] #[])] [] (.v (.bool (fg rj a b))) []:=by
 have kz:(a.map aw).length=a.length:=by simp
 have qt:(b.map aw).length=b.length:=by simp
 by_cases hl:a.length=b.length
 ·have hd:(((a.map aw).length:Int) != ((b.map aw).length:Int))=false:=by rw [kz,qt,hl];simp
  refine ai Tryz.func166 Tryz.ntmps166 ?_;refine GW.range (a.map aw).length (fun k fr Γ=>fr=[.U,.sl 3 (b.map aw),.v (.func (.func 167) #[] #[]),.U,.U,.U,.U,.U,.U,.U,.U,.U,.U,.U,.U,.sl 3 (a.map aw),.v (ii ((a.map aw).length:Int)),.v (ii (k:Nat)),.U,.U,.U,.U,.U,.U,.U,.U,.U,.U,.U,.U,.U,.U]/\Γ=[]/\sR rj a b k) ?_ ag ?_ ?_ ?_
  ·exact ⟨_,_,Wk.aC aq,rfl,rfl,fun j x y h=>by omega⟩
  ·exact gy
  ·rintro k _ _ ak ⟨rfl,rfl,kC⟩;rw [kz] at ak
   have ni:a[k]?=some a[k]:=by simp [ak]
   have pR:k < b.length:=by omega
   have oG:b[k]?=some b[k]:=by simp [pR]
   have Fv:(a.map aw)[k]?=some (aw a[k]):=by rw [getElem?_map,ni];rfl
   have Fw:(b.map aw)[k]?=some (aw b[k]):=by rw [getElem?_map,oG];rfl
   have hs:=Qn a[k] b[k] (ka _ (getElem_mem ak)) (kb _ (getElem_mem pR));generalize a[k]=x at *;generalize b[k]=y at *;unfold aw at Fv Fw hs
   cases iV:rj x y with
   | true =>
    rw [iV] at hs;refine ae ?_;refine iD [] hs ?_;refine ae ?_;exact ⟨rfl,rfl,_,_,(Wk.cut (n:=0) (Nat.le_refl _) rfl).trans (Wk.aC aq),rfl,rfl,lN ni oG kC iV⟩
   | false =>
    rw [iV] at hs;rw [ry ni oG (p:=rj) iV];refine ae ?_;refine iD [] hs ?_;exact av
  ·rintro _ _ ⟨rfl,rfl,kC⟩;rw [kz] at kC;rw [nw hl kC];exact av
 ·have hd:(((a.map aw).length:Int) != ((b.map aw).length:Int))=true:=by rw [kz,qt];simpa using by omega
  rw [rv hl];refine ai Tryz.func166 Tryz.ntmps166 ?_;exact al
theorem G5 (a b:List Nd) (ha:a.length<=1099511627776) (hb:b.length<=1099511627776) (ka:∀ x∈a,x.kids.length<=1099511627776) (kb:∀ x∈b,x.kids.length<=1099511627776) :
  GF Tryz.prog 168 [.sl 5 (a.map ay),.sl 5 (b.map ay),.v (.func (.func 169) #[] #[])] [] (.v (.bool (fg kF a b))) []:=by
 have kz:(a.map ay).length=a.length:=by simp
 have qt:(b.map ay).length=b.length:=by simp
 by_cases hl:a.length=b.length
 ·have hd:(((a.map ay).length:Int) != ((b.map ay).length:Int))=false:=by rw [kz,qt,hl];simp
  refine ai Tryz.func168 Tryz.ntmps168 ?_;refine GW.range (a.map ay).length (fun k fr Γ=>fr=[.U,.sl 5 (b.map ay),.v (.func (.func 169) #[] #[]),.U,.U,.U,.U,.U,.U,.U,.U,.U,.U,.U,.U,.sl 5 (a.map ay),.v (ii ((a.map ay).length:Int)),.v (ii (k:Nat)),.U,.U,.U,.U,.U,.U,.U,.U,.U,.U,.U,.U,.U,.U]/\Γ=[]/\sR kF a b k) ?_ ag ?_ ?_ ?_
  ·exact ⟨_,_,Wk.aC aq,rfl,rfl,fun j x y h=>by omega⟩
  ·exact gy
  ·rintro k _ _ ak ⟨rfl,rfl,kC⟩;rw [kz] at ak
   have ni:a[k]?=some a[k]:=by simp [ak]
   have pR:k < b.length:=by omega
   have oG:b[k]?=some b[k]:=by simp [pR]
   have Fv:(a.map ay)[k]?=some (ay a[k]):=by rw [getElem?_map,ni];rfl
   have Fw:(b.map ay)[k]?=some (ay b[k]):=by rw [getElem?_map,oG];rfl
   have hs:=KY a[k] b[k] (ka _ (getElem_mem ak)) (kb _ (getElem_mem pR));generalize a[k]=x at *;generalize b[k]=y at *;unfold ay at Fv Fw hs
   cases iV:kF x y with
   | true =>
    rw [iV] at hs;refine ae ?_;refine iD [] hs ?_;refine ae ?_;exact ⟨rfl,rfl,_,_,(Wk.cut (n:=0) (Nat.le_refl _) rfl).trans (Wk.aC aq),rfl,rfl,lN ni oG kC iV⟩
   | false =>
    rw [iV] at hs;rw [ry ni oG (p:=kF) iV];refine ae ?_;refine iD [] hs ?_;exact av
  ·rintro _ _ ⟨rfl,rfl,kC⟩;rw [kz] at kC;rw [nw hl kC];exact av
 ·have hd:(((a.map ay).length:Int) != ((b.map ay).length:Int))=true:=by rw [kz,qt];simpa using by omega
  rw [rv hl];refine ai Tryz.func168 Tryz.ntmps168 ?_;exact al
end Go.Xg
