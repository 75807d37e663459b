/- Part 7 of proofs that are told in their last texts. -/
import Derived.Test.YtcoplmnahnipiaaGreatDoorZ4
import Derived.ProofKit
import Derived.Below
import Derived.ChangeSame
import Derived.Test.YtcoplmnahnipiaaGreatDoorZ5
import Derived.Lib.Builder
import Derived.Lib.UnsafeStr
import Derived.Shelf.Strings.Builder1
import Derived.Shelf.Strings.Builder2
import Derived.Shelf.Small.Bits
import Derived.Shelf.Small.Strs
import Derived.Shelf.Strings.BuilderF
import Derived.Shelf.Strconv.Itoa0
import Derived.Shelf.Strconv.Itoa1
import Derived.Shelf.LaysM
import Derived.Shelf.Strconv.Itoa2
import Derived.Shelf.Strconv.Itoa3
import Derived.Shelf.Strings.Search1
import Derived.Shelf.Strings.Search2
import Derived.Shelf.Strings.Search3
import Derived.Shelf.Strings.Shaped
import Derived.Shelf.Sort.Plain
import Derived.Shelf.Strings.Prefix
import Derived.Shelf.Strings.Fields
import Derived.Shelf.Strings.SplitShaped
import Derived.Shelf.Unicode.Latin
import Derived.Shelf.Unicode.Is16White
import Derived.Shelf.Unicode.IsSpaceAny
import Derived.Shelf.Unicode.Is16Any
import Derived.Shelf.Unicode.Is32Any
import Derived.Shelf.Unicode.ExclAny
import Derived.Ground.Names2Prog
import Derived.Shelf.Slices.CompactI
import Derived.Shelf.Slices.SearchI
import Derived.Shelf.Slices.Cells
import Derived.Shelf.Slices.In.SortNone
import Derived.Test.YtcoplmnahnipiaaGreatDoorProg
import Derived.Test.YtcoplmnahnipiaaGreatDoorZ2
import Derived.Test.YtcoplmnahnipiaaGreatDoorZ6
import Derived.Lib.OwnBridge
import Derived.Lib.AppendIntMem
import Derived.Test.YtcoplmnahnipiaaGreatDoorZ1
open List (all_append all_cons all_eq_false all_eq_true all_nil drop_eq_getElem_cons flatten_cons getD_cons_succ getD_cons_zero getElem?_append_left getElem?_eq_none getElem?_map getElem_mem length_append length_cons length_map length_nil map_append map_nil mem_map mem_of_getElem? mem_singleton sum_cons take_add_one take_length take_of_length_le)
set_option linter.unusedVariables false
set_option linter.unusedSimpArgs false
set_option maxRecDepth 100000
namespace Go.Xw
open Go.RowKit Go.WideShapes Go.ChangeShapes
section
variable {H:Type} {enc:TypeId × Value->H} {P:Program}
theorem wu {f:Func} {s:ChangeSpec} {apart fresh handsOn again:Bool} {W W':World} {args:Array Value} {v:Value} {ds gs:List (DataW H)} {before pa pv:List MemPlace}
  (hW:DataW.Whole enc P f.params.toList s.vars apart W args.toList ds gs before)
  (TY:∀ (b:Nat) (sp:Nat->Bool) (hd:Bool),DataW.TrodAll enc P W' b sp hd f.resultTypes.toList (v.resultList f.resultTypes.size) (s.fn H (ds++gs)).results [])
  (xU:∀ sp:Nat->Bool,(∀ p∈before,sp p.block=true)->DataW.TrodAll enc P W' 0 sp true f.params.toList args.toList (s.fn H (ds++gs)).args pa)
  (QI:∀ sp:Nat->Bool,(∀ p∈before,sp p.block=true)->DataW.TrodVars enc P W' sp s.vars (s.fn H (ds++gs)).vars pv)
  (CL:before=pa++pv) (hb:Below W.heap.size W W')
  (ew:∀ (j:Nat) (t:TypeId) (r:Value),f.resultTypes[j]?=some t->(v.resultList f.resultTypes.size)[j]?=some r->Value.okWide P W' .any 0 t r) :
  s.post enc P f apart fresh handsOn again W args v W':=by
 have ar:∀ p∈before,p.block < W.heap.size:=fun p hp=>hW.lt p hp
 have hold:∀ p∈before,(fun b=>decide (b < W.heap.size)) p.block=true:=fun p hp=>by simpa using ar p hp
 refine ⟨ds,gs,before,[],pa,pv,hW,TY _ _ _,xU _ hold,QI _ hold,World.keptBut_mono (fun p hp=>⟨hp,?_⟩) (hb.frame (·∈before)),fun _=>?_⟩
 ·rw [CL,List.mem_append] at hp;exact Or.inr hp
 ·obtain ⟨_,_,_,_,_,hz,hn⟩:=hW;refine ⟨ew,_,_,([]++pa)++pv,⟨[]++pa,pv,trodAll_append (xU _ (fun _ _=>rfl)) (TY _ _ _),QI _ (fun _ _=>rfl),rfl,?_,?_⟩,?_⟩
  ·intro b off hp
   have gI:MemPlace.cell b off∈before:=by rw [CL];simpa using hp
   rw [hb.frozen (ar _ gI)];exact hz b off gI
  ·intro ha;have:=hn ha;rw [CL] at this;simpa using this
  ·intro p hp _;rw [CL];simpa using hp
end
end Go.Xw
namespace Go.Xg
open Go.RowKit Go.Xw
class Ba (P:Program) (t:TypeId):Prop where
 und:∃ e j,P.underlying t=some (.pointer e)/\P.info? e=some j
theorem Ba.mk' {P:Program} {t e:TypeId} (h:P.underlying t=some (.pointer e)) (k:(P.info? e).isSome=true):Ba P t:=⟨e,(P.info? e).get k,h,by simp⟩
section
variable {P:Program} {m:Nat} {Q:dH} {fr:List GV} {Γ:List Ob} {ops:Array Oper} {rest:List Oper} {d:Option Tmp} {op:Op} {ty:TypeId} {pos:String} {af:Array Edge}
theorem YG.zV {x y:Operand} {t t':TypeId} [hT:Ba P t] {i o:Nat} (hx:aS fr x=.loc i o) (hy:aS fr y=.v (.pointer none)):YG P (.binOp .eql t x y t') fr Γ (.v (.bool false)):=fun B K β w l hI hF=>by
 have h:=hF.ev x;rw [hx] at h;generalize hv:ev l x=v at h
 cases h with
 | loc _ _ b hb =>
  obtain ⟨e,j,h1,h2⟩:=hT.und
  have hp:P.pointee t=e:=by simp [Program.pointee,h1]
  have:=run_eql_pointer_nil (P:=P) w t (some ⟨b,o,none⟩) (by rw [hp];exact h1);refine ⟨_,fun d ty pos af=>?_,.v _⟩;simp [execOp,eqGuard,hv,hF.gD hy,this]
theorem YG.AH {x y:Operand} {t t':TypeId} [hT:Ba P t] {i o:Nat} (hx:aS fr x=.loc i o) (hy:aS fr y=.loc i o):YG P (.binOp .neq t x y t') fr Γ (.v (.bool false)):=fun B K β w l hI hF=>by
 have h:=hF.ev x;rw [hx] at h;have h':=hF.ev y;rw [hy] at h';generalize hv:ev l x=v at h;generalize Av:ev l y=v' at h'
 cases h with
 | loc _ _ b hb =>
  cases h' with
  | loc _ _ b' bj =>
   rw [hb] at bj;cases bj;obtain ⟨e,j,h1,h2⟩:=hT.und;have:=Lib.run_neq_ptr_same (P:=P) w ⟨b,o,none⟩ h1 h2;refine ⟨_,fun d ty pos af=>?_,.v _⟩;simp [execOp,eqGuard,hv,Av,this]
theorem Inv.again {B:Bs} {K:Fz} {β:Bt} {Γ:List Ob} {w w':World} {i E k:Nat} {rows:List (List GV)} {x:Value} {xs:List Value} (h:Inv B K β Γ w) (hi:Γ[i]?=some (.vech E k rows x)) (ho:gi w' 0 E k x rows.length xs) (hr:aY K β xs rows.flatten)
  (hx:Ext (fun b=>x.ownBlock=some b) w w'):Inv B K β Γ w':=by
 obtain ⟨xs0,h1,h2,h3,h4,h5⟩:=h.ob i _ hi
 have ea:∀ b,x.ownBlock=some b->(β i).blk=some b:=fun b hb=>by rw [h1];exact hb
 refine ⟨h.ext.step hx (fun j hj=>(h.own i j (ea j hj)).symm),h.kle,h.ble,h.loc,h.fz.ext hx (fun b o g hg he=>by rw [h5 b he o] at hg;cases hg),fun j y hj=>?_,h.out,h.dis,h.own,h.kn,h.tab.step hx (fun j hj=>⟨i,ea j hj⟩) (cj.refl K) (fun i b2 h=>.inl ⟨i,h⟩)⟩
 by_cases hji:j=i
 ·subst hji;rw [hi] at hj;cases hj;exact ⟨xs,h1,ho,hr,h4,h5⟩
 ·exact (h.ob j y hj).ext hx (fun b hb he=>hji (h.dis j i b hb (ea b he))) (cj.refl K) (cX.refl β) rfl (fun _ _ _ h=>h)
theorem GL.Vo {s x:Operand} {t u e:Nat} [hT:Cg P t e] [hU:oW P u] (i:Nat) {n:Nat} {dt:Tmp} {v:Value} {rows:List (List GV)} {str:ai} (hx:aS fr x=.v (sv str)) (hs:aS fr s=.v v) (bu:Γ[i]?=some (.vech e 1 rows v)) (hn:rows.length=n) (bL:str.isEmpty=false)
  (hb:n+str.length<=140737488355328)
  (h:∀ a c,GL P m ops Q rest (bm fr (some dt) (.v (.slice a (n+str.length) c))) (oset Γ i (.vech e 1 (rows++b7 str) (.slice a (n+str.length) c)))) :
  GL P m ops Q (⟨some dt,.call ⟨.builtin .append,#[s,x],#[t,u]⟩,ty,pos,af,none⟩::rest) fr Γ:=fun B K β w l hm hI hF=>by
 subst hn
 have bL:str≠[]:=by intro h0;rw [h0] at bL;cases bL
 obtain ⟨xs,o1,o2,o3,o4,o5⟩:=hI.ob i _ bu;have pQ:ev l s=v:=hF.gD hs
 have jm:(b7 str).flatten=str.map fun c=>GV.v (.int .u8 (c.toNat:Int)):=by
  unfold b7;clear hx bL hb h;generalize str=s
  induction s with
  | nil=>rfl
  | cons c r ih=>simp only [List.map_cons,flatten_cons,ih];rfl
 have hlen:(b7 str).length=str.length:=by simp [b7]
 refine WL.Bc (base:=0) (v:=v) (n:=rows.length) (xs:=xs) (str:=str) pQ o2 (hF.gD hx) hb (Nat.zero_le _) ?_;intro v' w' how gn s9 uy
 obtain ⟨K',hK,pS,bf⟩:=(hI.xB bu).grow (fz:=0) (ox bu) o1 ⟨o2,o3⟩ (news:=b7 str) (ns:=jQ str) (by rw [hlen];exact how) gn s9 (by rw [jm];exact (by
   have:(str.map fun c=>GV.v (.int .u8 (c.toNat:Int)))=km (jQ str):=by simp [km,jQ]
   rw [this];exact aY.self)) (fun r hr=>by
   simp only [b7,mem_map] at hr;obtain ⟨c,_,rfl⟩:=hr
   exact ⟨rfl,fun g hg=>by rw [mem_singleton] at hg;subst hg;rfl⟩) (by intro h0;exact bL (List.map_eq_nil_iff.1 h0)) (fun b bj o v ho hv=>by omega)
 rw [<-ba,mQ] at bf;obtain ⟨a,c,o8,nC⟩:=bf.vn (ox bu);rw [mQ] at nC;obtain ⟨a',c',rfl⟩:=how.shape;rw [bc] at o8;simp only [length_append,hlen] at o8 nC pS;cases o8;exact h _ _ B K' _ w' _ hm nC ((hF.mono hK pS).put (some dt) (.v _))
theorem GL.Vn {s x:Operand} {t u e:Nat} [hT:Cg P t e] [hU:oW P u] (i:Nat) {rows:List (List GV)} {v:Value} (hx:aS fr x=.v (sv [])) (hs:aS fr s=.v v) (bu:Γ[i]?=some (.vech e 1 rows v)) (hb:rows.length<=140737488355328)
  (h:GL P m ops Q rest (bm fr d (.v v)) Γ):GL P m ops Q (⟨d,.call ⟨.builtin .append,#[s,x],#[t,u]⟩,ty,pos,af,none⟩::rest) fr Γ:=fun B K β w l hm hI hF=>by
 obtain ⟨xs,o1,o2,o3,o4,o5⟩:=hI.ob i _ bu;have pQ:=hF.gD hs;have qQ:=hF.gD hx;obtain ⟨hu,i',hi,hz,cK,wZ⟩:=hT.is;have uA:(⟨([]:ai).toArray⟩:ByteArray).size=0:=rfl;obtain ⟨v',w',hr,h2,h3,h4⟩:=Lib.run_append_own_string (P:=P) w 0 t u ty e i' hu hU.und hi hz cK wZ v rows.length xs o2 ⟨([]:ai).toArray⟩ (by rw [uA];simp only [maxLen];omega) (by rw [uA];omega) (Nat.zero_le _)
 have Av:v'=v:=by
  rcases o2.2 with ⟨rfl,h6⟩ | ⟨g,cap,cur,rfl,mK,hg,nZ,wb,eV,Aq⟩
  ·exact h4.2 ⟨rfl,rfl⟩
  ·have TE:cur.size=cap:=by simpa using eV
   have c6:=Lib.run_append_room_string (P:=P) w t u ty e i' hu hU.und hi cK g rows.length cap cur hg ⟨([]:ai).toArray⟩ (by rw [uA];omega) (by unfold maxLen at wb;rw [uA];omega);rw [hr] at c6;cases c6;rfl
 subst Av;have mb:(Builtin.append_ #[t,u] ty #[v',sv []]).run P w=.ok v' w':=hr;have eV:Lib.strCells ⟨([]:ai).toArray⟩=[]:=rfl;rw [eV,List.append_nil] at h2;have gn:Ext (fun b=>v'.ownBlock=some b) w w':=⟨h3.os,h3.tape,h3.output,h3.size,fun j hj hn=>h3.block j hj fun he=>hn he.symm⟩;have bf:=hI.again bu h2 o3 gn;exact WL.val (v:=v') (w':=w') (by simp [execOp,resolve,invoke,builtin,pQ,qQ,mb]) (h B K β w' _ hm bf (hF.put d (.v _)))
theorem YG.qW {x:Operand} {t:TypeId} (i:Nat) {E n c:Nat} {a:Option Addr} {rows:List (List GV)} (hx:aS fr x=.v (.slice a n c)) (bu:Γ[i]?=some (.vech E 1 rows (.slice a n c))) (hn:rows.length=n) (hp:Nat.blt 0 n=true) :
  YG P (.call ⟨.builtin .unsafeSliceData,#[x],#[t]⟩) fr Γ (.vp i n 1 0 0):=fun B K β w l hI hF=>by
 subst hn
 have hp:0 < rows.length:=by simpa using hp
 obtain ⟨xs,h1,h2,h3,h4,h5⟩:=hI.ob i _ bu;have hv:=hF.gD hx
 rcases h2.2 with ⟨h8,h9⟩ | ⟨g,cap,cur,h8,_,hg,nZ,_⟩
 ·omega
 ·cases h8
  have hr:=fun ts ty=>Lib.run_unsafeSliceData_row (P:=P) (w:=w) ts ty ⟨g,0,none⟩ rows.length c ah
  exact ⟨.pointer (some ⟨g,0,none⟩),fun d ty pos af=>by simp [execOp,resolve,invoke,builtin,hv,hr],.vp i _ 1 0 0 _ ⟨_,_,h1,Nat.le_refl _,fun _=>⟨g,rfl,by simp⟩⟩⟩
theorem GL.Nr {x y:Operand} {pt it e:TypeId} (i:Nat) {str:ai} {rows:List (List GV)} {v:Value} (hp:P.underlying pt=some (.pointer e)) (hc:P.cellsOf e=1) (hx:aS fr x=.vp i str.length 1 0 0) (hy:aS fr y=.v (ii str.length)) (bu:Γ[i]?=some (.vech e 1 rows v)) (jz:rows=b7 str)
  (bL:str.isEmpty=false) (hb:str.length<=140737488355328)
  (h:GL P m ops Q rest (bm fr d (.v (sv str))) (oset Γ i .lost)):GL P m ops Q (⟨d,.call ⟨.builtin .unsafeString,#[x,y],#[pt,it]⟩,ty,pos,af,none⟩::rest) fr Γ:=fun B K β w l hm hI hF=>by
 have bL:str≠[]:=by intro h0;rw [h0] at bL;cases bL
 subst jz;obtain ⟨xs,o1,o2,o3,o4,o5⟩:=hI.ob i _ bu
 have hlen:(b7 str).length=str.length:=by simp [b7]
 have hr:=hF.ev x;rw [hx] at hr;have Uk:=hF.gD hy;generalize hv:ev l x=u at hr
 cases hr with
 | vp _ _ _ _ _ _ hh =>
  obtain ⟨h0,mm,e1,e2,e3⟩:=hh;rw [e1] at o1;cases o1;obtain ⟨b,Qu,rfl⟩:=e3 hlen
  rcases o2.2 with ⟨h8,h9⟩ | ⟨g,cap,cur,h8,_,hg,nZ,wb,eV,Aq⟩
  ·rw [hlen] at h9;exact absurd (List.eq_nil_of_length_eq_zero h9) bL
  ·subst h8;simp only [Value.ownBlock,Option.some.injEq] at Qu;subst Qu
   have oL:xs=jQ str:=by
    have jm:(b7 str).flatten=km (jQ str):=by
     have:(b7 str).flatten=str.map fun c=>GV.v (.int .u8 (c.toNat:Int)):=by
      unfold b7;generalize str=s
      induction s with
      | nil=>rfl
      | cons c r ih=>simp only [List.map_cons,flatten_cons,ih];rfl
     rw [this];simp [km,jQ]
    rw [jm] at o3;apply List.ext_getElem
    ·have:=o3.1;simpa [km] using this
    ·intro j h1 h2;have:=o3.2 j xs[j] (.v (jQ str)[j]) (by simp [h1]) (by simp [km,h2]);exact Rel.eo this
   have kJ:∀ j y,str[j]?=some y->w.cell? ((⟨g,0,none⟩:Addr).add j)=some (.int .u8 y.toNat):=fun j y hy=>by
    have:=World.ownsRow.cells (g:=g) o2 rfl j (.int .u8 y.toNat) (by rw [oL];simp [jQ,hy]);exact this
   have aac:(b7 str).length<=cur.size:=by rw [eV];omega
   have mb:=Lib.run_unsafeString_row (P:=P) w pt it ty e hp hc g cur.size (by simp [World.shape?,hg]) str bL ah ah kJ
   have gn:Ext (·=g) w (w.freeze ⟨g,0,none⟩ str.length):=by
    have:=Lib.below_freeze (Below.refl 0 w) (p:=⟨g,0,none⟩) (Nat.zero_le g) str.length
    exact ⟨this.os,this.tape,this.output,this.size,fun k hk hn=>by
     unfold World.freeze;split
     ·rfl
     ·simp only [Array.getElem?_modify]
      rw [if_neg (fun he=>hn he.symm)]⟩
   have ea:(β i).blk=some g:=by rw [e1];rfl
   have bf:Inv B K β (oset Γ i .lost) (w.freeze ⟨g,0,none⟩ str.length):=by
    refine ⟨hI.ext.step gn (fun j hj=>by subst hj;exact (hI.own i _ ea).symm),hI.kle,hI.ble,hI.loc,hI.fz.ext gn (fun b o g' kP he=>by subst he;rw [o5 _ rfl o] at kP;cases kP),fun j y hj=>?_,fun j hj=>hI.out j (by simpa [ba] using hj),hI.dis,hI.own,hI.kn,hI.tab.step gn (fun j hj=>⟨i,by subst hj;exact ea⟩) (cj.refl K) (fun i b2 h=>.inl ⟨i,h⟩)⟩;rw [ba,List.getElem?_set] at hj;split at hj
    ·rename_i fw;split at hj
     ·cases hj;subst fw
      intro b bj;rw [ea] at bj;cases bj;have:=qS hg;exact Nat.lt_of_lt_of_le this gn.size
     ·cases hj
    ·rename_i fw;exact (hI.ob j y hj).ext gn (fun b hb he=>by subst he;exact fw (hI.dis i j _ ea hb)) (cj.refl K) (cX.refl β) rfl (fun _ _ _ h=>h)
   exact WL.val (v:=sv str) (w':=w.freeze ⟨g,0,none⟩ str.length) (by simp [execOp,resolve,invoke,builtin,hv,Uk,mb,sv]) (h B K β _ _ hm bf (hF.put d (.v _)))
theorem Inv.Qb {B:Bs} {K:Fz} {β:Bt} {Γ:List Ob} {w:World} {x:Bk} {y:Ob} (h:Inv B K β Γ w) (hd:∀ b,x.blk=some b->(∀ i,(β i).blk≠some b)/\B.w0.heap.size<=b/\(b≠3/\b≠0))
  (ho:jG K (en β Γ.length x) w Γ.length y) (hold:cX β (en β Γ.length x)):Inv B K (en β Γ.length x) (Γ++[y]) w:=by
 refine ⟨h.ext,h.kle,h.ble.trans hold,h.loc,h.fz,fun i z hi=>?_,fun i hi=>?_,fun i j b hi hj=>?_,fun i b hi=>?_,h.kn,⟨h.tab.le,h.tab.pow,h.tab.spc,fun i b hi=>?_⟩⟩
 ·by_cases we:i < Γ.length
  ·rw [getElem?_append_left we] at hi;exact (h.ob i z hi).ext (S:=gQ) (Ext.refl w) (fun _ _ h=>h) (cj.refl K) hold (bA ah) (fun _ _ _ h=>h)
  ·have:i=Γ.length:=by have:=(List.getElem?_eq_some_iff.1 hi).1;simp at this;omega
   subst this;simp at hi;subst hi;exact ho
 ·simp at hi;rw [bA ah];exact h.out i ah
 ·by_cases h1:i=Γ.length <;> by_cases h2:j=Γ.length
  ·omega
  ·subst h1;rw [bc] at hi;rw [bA h2] at hj;exact absurd hj ((hd b hi).1 j)
  ·subst h2;rw [bc] at hj;rw [bA h1] at hi;exact absurd hi ((hd b hj).1 i)
  ·rw [bA h1] at hi;rw [bA h2] at hj;exact h.dis i j b hi hj
 ·rcases lu hi with h1 | h1
  ·exact .inr (hd b h1).2.1
  ·exact h.own i b h1
 ·rcases lu hi with h1 | h1
  ·exact (hd b h1).2.2
  ·exact h.tab.free i b h1
theorem YG.Wq {x lo:Operand} {t e:TypeId} {k:Nat} [hT:mg P t e k] {rows:List (List GV)} {kk:IntKind} {i:Nat} (hx:aS fr x=.sl k rows) (gT:aS fr lo=.v (.int kk i)) (hi:Nat.blt i rows.length=true):YG P (.slice t x (some lo) none none) fr Γ (.sl k (rows.drop i)):=fun B K β w l hI hF=>by
 have hi:i < rows.length:=by simpa using hi
 have h:=hF.ev x;rw [hx] at h;have HJ:=hF.gD gT;generalize hv:ev l x=v at h
 cases h with
 | sl0 a c=>simp at hi
 | sl b o c _ _ h hc =>
  refine ⟨.slice (some ⟨b,o+i * k,none⟩) (rows.length - i) (c - i),fun d ty pos af=>?_,?_⟩
  ·have nD:¬ (c=i):=by omega
   have hle:(i:Int)<=(rows.length:Int):=by omega
   simp [execOp,Instr.sliceAt,Instr.slice,Instr.sliceBounds,Instr.sliceBound,asIntOf,hv,HJ,run_underlying hT.und,im hT.siz,nD,Nat.le_of_lt hi,oX]
  ·have:=Rel.sl (K:=K) (β:=β) b (o+i * k) (c - i) k (rows.drop i) (fun j r hr=>?_) (by simp;omega)
   ·rw [List.length_drop] at this;exact this
   ·rw [List.getElem?_drop] at hr;refine ⟨(h (i+j) r hr).1,fun q g hg=>?_⟩;have:=(h (i+j) r hr).2 q g hg;rw [Nat.add_mul] at this;rw [show o+i * k+j * k+q=o+(i * k+j * k)+q by omega];exact this
theorem YG.xy {x lo:Operand} {t e:TypeId} {k:Nat} [hT:mg P t e k] {rows:List (List GV)} {kk:IntKind} {n:Int} (i:Nat) (hx:aS fr x=.sl k rows) (gT:aS fr lo=.v (.int kk n)) (hn:n=(i:Int)) (hi:Nat.blt i rows.length=true):YG P (.slice t x (some lo) none none) fr Γ (.sl k (rows.drop i)):=by
 subst hn;exact YG.Wq hx gT hi
end
end Go.Xg
namespace Go.Proofs
open Go.Shelf
def Tryz.yL:Go.Shelf.Ren:=⟨fun | 165=>228 | 240=>263 | 241=>264 | 276=>285 | 277=>286 | n=>n,fun | 70=>225 | 3=>3 | 0=>0 | 4=>4 | 9=>9 | 20=>20 | 72=>227 | 37=>143 | 164=>270 | 5=>5 | n=>n,fun | n=>n⟩
theorem Tryz.RQ:Go.Proofs.Lays.n165 Tryz.prog Tryz.yL:={
 mixed:=by kernel_rfl
 f165:=Tryz.func228.trans (congrArg some (by kernel_rfl))
 f240:=Tryz.func263.trans (congrArg some (by kernel_rfl))
 f241:=Tryz.func264.trans (congrArg some (by kernel_rfl))
 f276:=Tryz.func285.trans (congrArg some (by kernel_rfl))
 f277:=Tryz.func286.trans (congrArg some (by kernel_rfl))
 t0:=Tryz.underlying0
 a0:=Tryz.isAgg0
 z0:=Tryz.sizeOf0
 v0:=Tryz.zeroValue0
 t3:=Tryz.underlying3
 a3:=Tryz.isAgg3
 z3:=Tryz.sizeOf3
 v3:=Tryz.zeroValue3
 t4:=Tryz.underlying4
 a4:=Tryz.isAgg4
 z4:=Tryz.sizeOf4
 v4:=Tryz.zeroValue4
 t9:=Tryz.underlying9
 a9:=Tryz.isAgg9
 z9:=Tryz.sizeOf9
 v9:=Tryz.zeroValue9
 t20:=Tryz.underlying20
 a20:=Tryz.isAgg20
 z20:=Tryz.sizeOf20
 v20:=Tryz.zeroValue20
 t37:=Tryz.underlying143
 a37:=Tryz.isAgg143
 z37:=Tryz.sizeOf143
 v37:=Tryz.zeroValue143
 t70:=Tryz.underlying225
 a70:=Tryz.isAgg225
 z70:=Tryz.sizeOf225
 v70:=Tryz.zeroValue225
 t72:=Tryz.underlying227
 a72:=Tryz.isAgg227
 z72:=Tryz.sizeOf227
 v72:=Tryz.zeroValue227
 t164:=Tryz.underlying270
 a164:=Tryz.isAgg270
 z164:=Tryz.sizeOf270
 v164:=Tryz.zeroValue270 }
theorem Tryz.yi:Builder.Extra Tryz.prog Tryz.yL:={
 sizeBuilder:=by kernel_rfl
 liesBuilder:=by kernel_rfl
 t5:=Tryz.underlying5
 a5:=Tryz.isAgg5
 z5:=Tryz.sizeOf5
 v5:=Tryz.zeroValue5
 infoByte:=by kernel_rfl
 cellsByte:=by kernel_rfl
 sizeByte:=by kernel_rfl
 neB5:=by decide }
open Go.RowKit in
theorem Tryz.Builder_Grow_fresh (B b n:Nat) (w:World) (hB:B<=b) (ea:w.heap[b]?=some (.cells #[.pointer none,.slice none 0 0] 227 (0,0))) (YY:B<=w.heap.size) (hn:n<=281474976710656) :
  Calls Tryz.prog 228 #[.pointer (some ⟨b,0,none⟩),.int .i64 n] w fun e w'=>e=.returned (.tuple #[])/\(Lib.BuilderAt 227 5 B b (.pointer (some ⟨b,0,none⟩)) [] w'/\Below B w w'):=Any.Builder_Grow_fresh Tryz.RQ Tryz.yi B b n w hB ea YY hn
def Tryz.GD:Go.Shelf.Ren:=⟨fun | 137=>202 | 217=>235 | 266=>266 | n=>n,fun | 9=>9 | 5=>5 | 3=>3 | n=>n,fun | n=>n⟩
theorem Tryz.RO:Go.Proofs.Lays.n137 Tryz.prog Tryz.GD:={
 mixed:=by kernel_rfl
 f137:=Tryz.func202.trans (congrArg some (by kernel_rfl))
 f217:=Tryz.func235.trans (congrArg some (by kernel_rfl))
 f266:=Tryz.func266.trans (congrArg some (by kernel_rfl))
 t3:=Tryz.underlying3
 a3:=Tryz.isAgg3
 z3:=Tryz.sizeOf3
 v3:=Tryz.zeroValue3
 t5:=Tryz.underlying5
 a5:=Tryz.isAgg5
 z5:=Tryz.sizeOf5
 v5:=Tryz.zeroValue5
 t9:=Tryz.underlying9
 a9:=Tryz.isAgg9
 z9:=Tryz.sizeOf9
 v9:=Tryz.zeroValue9 }
open Go.RowKit in
theorem Tryz.strings_IndexByte (s:ByteArray) (c:Int) (w:World) :
  Calls Tryz.prog 202 #[.string s,.int .u8 c] w fun e w'=>e=.returned (.int .i64 (Lib.indexByte s.data.toList c.toNat.toUInt8))/\w'=w:=Any.strings_IndexByte Tryz.RO s c w
def Tryz.Uu:Go.Shelf.Ren:=⟨fun | 246=>262 | 283=>281 | 284=>282 | 285=>283 | 286=>284 | 129=>184 | 317=>295 | 318=>296 | 319=>297 | 320=>298 | 337=>302 | 338=>303 | n=>n,fun | 2=>2 | 3=>3 | 9=>9 | 4=>4 | 171=>266 | 0=>0 | 53=>177 | 37=>143 | 5=>5 | 173=>268 | 212=>287 | 51=>175 | 20=>20 | 213=>288 | 46=>142 | 232=>294 | 233=>295 | n=>n,fun | 17=>3 | 18=>4 | 19=>5 | n=>n⟩
def Tryz.Ut:Go.Shelf.Ren:=⟨fun | 243=>227 | 246=>262 | 283=>281 | 284=>282 | 285=>283 | 286=>284 | 129=>184 | 317=>295 | 318=>296 | 319=>297 | 320=>298 | 337=>302 | 338=>303 | n=>n,fun | 3=>3 | 9=>9 | 2=>2 | 4=>4 | 171=>266 | 0=>0 | 53=>177 | 37=>143 | 5=>5 | 173=>268 | 212=>287 | 51=>175 | 20=>20 | 213=>288 | 46=>142 | 232=>294 | 233=>295 | n=>n,fun | 17=>3 | 18=>4 | 19=>5 | n=>n⟩
def Tryz.EW:Go.Shelf.Ren:=⟨fun | 171=>195 | 243=>227 | 246=>262 | 283=>281 | 284=>282 | 285=>283 | 286=>284 | 129=>184 | 317=>295 | 318=>296 | 319=>297 | 320=>298 | 337=>302 | 338=>303 | n=>n,fun | 3=>3 | 9=>9 | 2=>2 | 4=>4 | 171=>266 | 0=>0 | 53=>177 | 37=>143 | 5=>5 | 173=>268 | 212=>287 | 51=>175 | 20=>20 | 213=>288 | 46=>142 | 232=>294 | 233=>295 | n=>n,fun | 17=>3 | 18=>4 | 19=>5 | n=>n⟩
theorem Tryz.Pa:Go.Proofs.LaysM.n171 Tryz.prog Tryz.EW:={
 mixed:=by kernel_rfl
 f129:=Tryz.func184.trans (congrArg some (by kernel_rfl))
 f171:=Tryz.func195.trans (congrArg some (by kernel_rfl))
 f243:=Tryz.func227.trans (congrArg some (by kernel_rfl))
 f246:=Tryz.func262.trans (congrArg some (by kernel_rfl))
 f283:=Tryz.func281.trans (congrArg some (by kernel_rfl))
 f284:=Tryz.func282.trans (congrArg some (by kernel_rfl))
 f285:=Tryz.func283.trans (congrArg some (by kernel_rfl))
 f286:=Tryz.func284.trans (congrArg some (by kernel_rfl))
 f317:=Tryz.func295.trans (congrArg some (by kernel_rfl))
 f318:=Tryz.func296.trans (congrArg some (by kernel_rfl))
 f319:=Tryz.func297.trans (congrArg some (by kernel_rfl))
 f320:=Tryz.func298.trans (congrArg some (by kernel_rfl))
 f337:=Tryz.func302.trans (congrArg some (by kernel_rfl))
 f338:=Tryz.func303.trans (congrArg some (by kernel_rfl))
 t0:=Tryz.underlying0
 a0:=Tryz.isAgg0
 z0:=Tryz.sizeOf0
 v0:=Tryz.zeroValue0
 t2:=Tryz.underlying2
 a2:=Tryz.isAgg2
 z2:=Tryz.sizeOf2
 v2:=Tryz.zeroValue2
 t3:=Tryz.underlying3
 a3:=Tryz.isAgg3
 z3:=Tryz.sizeOf3
 v3:=Tryz.zeroValue3
 t4:=Tryz.underlying4
 a4:=Tryz.isAgg4
 z4:=Tryz.sizeOf4
 v4:=Tryz.zeroValue4
 t5:=Tryz.underlying5
 a5:=Tryz.isAgg5
 z5:=Tryz.sizeOf5
 v5:=Tryz.zeroValue5
 t9:=Tryz.underlying9
 a9:=Tryz.isAgg9
 z9:=Tryz.sizeOf9
 v9:=Tryz.zeroValue9
 t20:=Tryz.underlying20
 a20:=Tryz.isAgg20
 z20:=Tryz.sizeOf20
 v20:=Tryz.zeroValue20
 t37:=Tryz.underlying143
 a37:=Tryz.isAgg143
 z37:=Tryz.sizeOf143
 v37:=Tryz.zeroValue143
 t46:=Tryz.underlying142
 a46:=Tryz.isAgg142
 z46:=Tryz.sizeOf142
 v46:=Tryz.zeroValue142
 t51:=Tryz.underlying175
 a51:=Tryz.isAgg175
 z51:=Tryz.sizeOf175
 v51:=Tryz.zeroValue175
 t53:=Tryz.underlying177
 a53:=Tryz.isAgg177
 z53:=Tryz.sizeOf177
 v53:=Tryz.zeroValue177
 t171:=Tryz.underlying266
 a171:=Tryz.isAgg266
 z171:=Tryz.sizeOf266
 v171:=Tryz.zeroValue266
 t173:=Tryz.underlying268
 a173:=Tryz.isAgg268
 z173:=Tryz.sizeOf268
 v173:=Tryz.zeroValue268
 t212:=Tryz.underlying287
 a212:=Tryz.isAgg287
 z212:=Tryz.sizeOf287
 v212:=Tryz.zeroValue287
 t213:=Tryz.underlying288
 a213:=Tryz.isAgg288
 z213:=Tryz.sizeOf288
 t232:=Tryz.underlying294
 a232:=Tryz.isAgg294
 z232:=Tryz.sizeOf294
 v232:=Tryz.zeroValue294
 t233:=Tryz.underlying295
 a233:=Tryz.isAgg295
 z233:=Tryz.sizeOf295
 v233:=Tryz.zeroValue295
 g17:=by kernel_rfl
 g18:=by kernel_rfl
 g19:=by kernel_rfl
 i0:=by kernel_rfl
 i2:=by kernel_rfl
 i3:=by kernel_rfl
 i4:=by kernel_rfl
 i5:=by kernel_rfl
 i9:=by kernel_rfl
 i20:=by kernel_rfl
 i37:=by kernel_rfl
 i46:=by kernel_rfl
 i51:=by kernel_rfl
 i53:=by kernel_rfl
 i171:=by kernel_rfl
 i173:=by kernel_rfl
 i212:=by kernel_rfl
 i232:=by kernel_rfl
 i233:=by kernel_rfl
 m17:=by kernel_rfl
 m18:=by kernel_rfl
 m19:=by kernel_rfl }
open Go.RowKit Go.Sort Go.Lib in
theorem Tryz.strconv_Itoa (n:Int) (h0 : -9223372036854775808<=n) (h1:n<=9223372036854775807) (w:World) (zo:Lib.TabIs Tryz.prog w "internal/strconv.uint64pow10" .u64 Lib.pow10Tab) :
  Calls Tryz.prog 195 #[.int .i64 n] w fun e w'=>e=.returned (.string ⟨(Lib.itoa n).toArray⟩)/\∃ k os,w'=grow (w.drewN k) os:=Any.strconv_Itoa Tryz.Pa n h0 h1 w zo
def Tryz.Vj:Go.Shelf.Ren:=⟨fun | 219=>237 | 217=>235 | 225=>267 | 224=>268 | 267=>269 | 266=>266 | 314=>287 | n=>n,fun | 9=>9 | 3=>3 | 4=>4 | 5=>5 | 46=>142 | 146=>273 | 51=>175 | n=>n,fun | 1=>1 | n=>n⟩
def Tryz.GG:Go.Shelf.Ren:=⟨fun | 143=>204 | 219=>237 | 217=>235 | 225=>267 | 224=>268 | 267=>269 | 266=>266 | 314=>287 | n=>n,fun | 9=>9 | 3=>3 | 4=>4 | 5=>5 | 46=>142 | 146=>273 | 51=>175 | n=>n,fun | 1=>1 | n=>n⟩
theorem Tryz.RP:Go.Proofs.Lays.n143 Tryz.prog Tryz.GG:={
 mixed:=by kernel_rfl
 f143:=Tryz.func204.trans (congrArg some (by kernel_rfl))
 f217:=Tryz.func235.trans (congrArg some (by kernel_rfl))
 f219:=Tryz.func237.trans (congrArg some (by kernel_rfl))
 f224:=Tryz.func268.trans (congrArg some (by kernel_rfl))
 f225:=Tryz.func267.trans (congrArg some (by kernel_rfl))
 f266:=Tryz.func266.trans (congrArg some (by kernel_rfl))
 f267:=Tryz.func269.trans (congrArg some (by kernel_rfl))
 f314:=Tryz.func287.trans (congrArg some (by kernel_rfl))
 t3:=Tryz.underlying3
 a3:=Tryz.isAgg3
 z3:=Tryz.sizeOf3
 v3:=Tryz.zeroValue3
 t4:=Tryz.underlying4
 a4:=Tryz.isAgg4
 z4:=Tryz.sizeOf4
 v4:=Tryz.zeroValue4
 t5:=Tryz.underlying5
 a5:=Tryz.isAgg5
 z5:=Tryz.sizeOf5
 v5:=Tryz.zeroValue5
 t9:=Tryz.underlying9
 a9:=Tryz.isAgg9
 z9:=Tryz.sizeOf9
 v9:=Tryz.zeroValue9
 t46:=Tryz.underlying142
 a46:=Tryz.isAgg142
 z46:=Tryz.sizeOf142
 v46:=Tryz.zeroValue142
 t51:=Tryz.underlying175
 a51:=Tryz.isAgg175
 z51:=Tryz.sizeOf175
 v51:=Tryz.zeroValue175
 t146:=Tryz.underlying273
 a146:=Tryz.isAgg273
 z146:=Tryz.sizeOf273
 v146:=Tryz.zeroValue273
 g1:=by kernel_rfl }
open Go.RowKit Go.Lib in
theorem Tryz.strings_Index (s sub:ByteArray) (m:Int) (w:World) (hs:s.size < 4294967281) (hm:w.cell? ⟨1,0,none⟩=some (.int .i64 m)) :
  Calls Tryz.prog 204 #[.string s,.string sub] w fun e w'=>e=.returned (.int .i64 (Lib.index s.data.toList sub.data.toList))/\w'=w:=Any.strings_Index Tryz.RP s sub m w hs hm
def Tryz.GH:Go.Shelf.Ren:=⟨fun | 189=>105 | 125=>142 | 257=>141 | 128=>183 | 129=>184 | 294=>174 | 295=>175 | 296=>176 | 297=>177 | 298=>178 | 299=>179 | 216=>180 | 300=>181 | 301=>182 | 328=>210 | 329=>211 | 330=>212 | 331=>213 | 332=>214 | 215=>215 | 343=>246 | n=>n,fun | 28=>40 | 3=>3 | 46=>142 | 0=>0 | 51=>175 | 53=>177 | 4=>4 | 183=>167 | 182=>166 | 131=>172 | 5=>5 | 9=>9 | 218=>210 | 222=>214 | 228=>242 | 229=>108 | n=>n,fun | n=>n⟩
theorem Tryz.HY:Go.Proofs.Lays.n189 Tryz.prog Tryz.GH:={
 mixed:=by kernel_rfl
 f125:=Tryz.func142.trans (congrArg some (by kernel_rfl))
 f128:=Tryz.func183.trans (congrArg some (by kernel_rfl))
 f129:=Tryz.func184.trans (congrArg some (by kernel_rfl))
 f189:=Tryz.func105.trans (congrArg some (by kernel_rfl))
 f215:=Tryz.func215.trans (congrArg some (by kernel_rfl))
 f216:=Tryz.func180.trans (congrArg some (by kernel_rfl))
 f257:=Tryz.func141.trans (congrArg some (by kernel_rfl))
 f294:=Tryz.func174.trans (congrArg some (by kernel_rfl))
 f295:=Tryz.func175.trans (congrArg some (by kernel_rfl))
 f296:=Tryz.func176.trans (congrArg some (by kernel_rfl))
 f297:=Tryz.func177.trans (congrArg some (by kernel_rfl))
 f298:=Tryz.func178.trans (congrArg some (by kernel_rfl))
 f299:=Tryz.func179.trans (congrArg some (by kernel_rfl))
 f300:=Tryz.func181.trans (congrArg some (by kernel_rfl))
 f301:=Tryz.func182.trans (congrArg some (by kernel_rfl))
 f328:=Tryz.func210.trans (congrArg some (by kernel_rfl))
 f329:=Tryz.func211.trans (congrArg some (by kernel_rfl))
 f330:=Tryz.func212.trans (congrArg some (by kernel_rfl))
 f331:=Tryz.func213.trans (congrArg some (by kernel_rfl))
 f332:=Tryz.func214.trans (congrArg some (by kernel_rfl))
 f343:=Tryz.func246.trans (congrArg some (by kernel_rfl))
 t0:=Tryz.underlying0
 a0:=Tryz.isAgg0
 z0:=Tryz.sizeOf0
 v0:=Tryz.zeroValue0
 t3:=Tryz.underlying3
 a3:=Tryz.isAgg3
 z3:=Tryz.sizeOf3
 v3:=Tryz.zeroValue3
 t4:=Tryz.underlying4
 a4:=Tryz.isAgg4
 z4:=Tryz.sizeOf4
 v4:=Tryz.zeroValue4
 t5:=Tryz.underlying5
 a5:=Tryz.isAgg5
 z5:=Tryz.sizeOf5
 v5:=Tryz.zeroValue5
 t9:=Tryz.underlying9
 a9:=Tryz.isAgg9
 z9:=Tryz.sizeOf9
 v9:=Tryz.zeroValue9
 t28:=Tryz.underlying40
 a28:=Tryz.isAgg40
 z28:=Tryz.sizeOf40
 v28:=Tryz.zeroValue40
 t46:=Tryz.underlying142
 a46:=Tryz.isAgg142
 z46:=Tryz.sizeOf142
 v46:=Tryz.zeroValue142
 t51:=Tryz.underlying175
 a51:=Tryz.isAgg175
 z51:=Tryz.sizeOf175
 v51:=Tryz.zeroValue175
 t53:=Tryz.underlying177
 a53:=Tryz.isAgg177
 z53:=Tryz.sizeOf177
 v53:=Tryz.zeroValue177
 t131:=Tryz.underlying172
 a131:=Tryz.isAgg172
 z131:=Tryz.sizeOf172
 v131:=Tryz.zeroValue172
 t182:=Tryz.underlying166
 a182:=Tryz.isAgg166
 z182:=Tryz.sizeOf166
 v182:=Tryz.zeroValue166
 t183:=Tryz.underlying167
 a183:=Tryz.isAgg167
 z183:=Tryz.sizeOf167
 v183:=Tryz.zeroValue167
 t218:=Tryz.underlying210
 a218:=Tryz.isAgg210
 z218:=Tryz.sizeOf210
 v218:=Tryz.zeroValue210
 t222:=Tryz.underlying214
 a222:=Tryz.isAgg214
 z222:=Tryz.sizeOf214
 v222:=Tryz.zeroValue214
 t228:=Tryz.underlying242
 a228:=Tryz.isAgg242
 z228:=Tryz.sizeOf242
 v228:=Tryz.zeroValue242
 t229:=Tryz.underlying108
 a229:=Tryz.isAgg108
 z229:=Tryz.sizeOf108
 v229:=Tryz.zeroValue108 }
open Go.Sort Go.RowKit in
theorem Tryz.slices_Sort_int (blk off cap:Nat) (zs:List Int) (w:World) (hH:Holds (Value.int .i64) w blk off zs.toArray) (dq:blk < w.heap.size) (cK:zs.length < 4611686018427387904) :
  Calls Tryz.prog 105 #[.slice (some ⟨blk,off,none⟩) zs.length cap] w fun e w' =>
   e=.returned (.tuple #[])/\∃ n os,w'=grow (putRow (Value.int .i64) (Sort.ahead w n) blk off (zs.mergeSort fun x y=>decide (x<=y)).toArray) os:=Any.slices_Sort_int Tryz.HY blk off cap zs w hH dq cK
def Tryz.Vi:Go.Shelf.Ren:=⟨fun | 157=>216 | 229=>247 | 199=>248 | 261=>274 | 311=>290 | 312=>291 | n=>n,fun | 9=>9 | 31=>22 | 3=>3 | 5=>5 | 4=>4 | 119=>244 | 0=>0 | 40=>246 | 152=>259 | 21=>21 | 154=>261 | 51=>175 | 141=>263 | 196=>278 | 193=>275 | 198=>281 | 49=>279 | 194=>276 | 201=>284 | 226=>290 | 46=>142 | 227=>291 | n=>n,fun | 0=>0 | 6=>2 | n=>n⟩
def Tryz.EV:Go.Shelf.Ren:=⟨fun | 157=>216 | 229=>247 | 199=>248 | 261=>274 | 311=>290 | 312=>291 | n=>n,fun | 9=>9 | 31=>22 | 3=>3 | 5=>5 | 4=>4 | 119=>244 | 0=>0 | 40=>246 | 152=>259 | 21=>21 | 154=>261 | 51=>175 | 141=>263 | 196=>278 | 193=>275 | 198=>281 | 49=>279 | 194=>276 | 201=>284 | 226=>290 | 46=>142 | 227=>291 | n=>n,fun | 0=>0 | 6=>2 | n=>n⟩
theorem Tryz.O9:Go.Proofs.LaysM.n157 Tryz.prog Tryz.EV:={
 mixed:=by kernel_rfl
 f157:=Tryz.func216.trans (congrArg some (by kernel_rfl))
 f199:=Tryz.func248.trans (congrArg some (by kernel_rfl))
 f229:=Tryz.func247.trans (congrArg some (by kernel_rfl))
 f261:=Tryz.func274.trans (congrArg some (by kernel_rfl))
 f311:=Tryz.func290.trans (congrArg some (by kernel_rfl))
 f312:=Tryz.func291.trans (congrArg some (by kernel_rfl))
 t0:=Tryz.underlying0
 a0:=Tryz.isAgg0
 z0:=Tryz.sizeOf0
 v0:=Tryz.zeroValue0
 t3:=Tryz.underlying3
 a3:=Tryz.isAgg3
 z3:=Tryz.sizeOf3
 v3:=Tryz.zeroValue3
 t4:=Tryz.underlying4
 a4:=Tryz.isAgg4
 z4:=Tryz.sizeOf4
 v4:=Tryz.zeroValue4
 t5:=Tryz.underlying5
 a5:=Tryz.isAgg5
 z5:=Tryz.sizeOf5
 v5:=Tryz.zeroValue5
 t9:=Tryz.underlying9
 a9:=Tryz.isAgg9
 z9:=Tryz.sizeOf9
 v9:=Tryz.zeroValue9
 t21:=Tryz.underlying21
 a21:=Tryz.isAgg21
 z21:=Tryz.sizeOf21
 v21:=Tryz.zeroValue21
 t31:=Tryz.underlying22
 a31:=Tryz.isAgg22
 z31:=Tryz.sizeOf22
 v31:=Tryz.zeroValue22
 t40:=Tryz.underlying246
 a40:=Tryz.isAgg246
 z40:=Tryz.sizeOf246
 v40:=Tryz.zeroValue246
 t46:=Tryz.underlying142
 a46:=Tryz.isAgg142
 z46:=Tryz.sizeOf142
 v46:=Tryz.zeroValue142
 t49:=Tryz.underlying279
 a49:=Tryz.isAgg279
 z49:=Tryz.sizeOf279
 v49:=Tryz.zeroValue279
 t51:=Tryz.underlying175
 a51:=Tryz.isAgg175
 z51:=Tryz.sizeOf175
 v51:=Tryz.zeroValue175
 t119:=Tryz.underlying244
 a119:=Tryz.isAgg244
 z119:=Tryz.sizeOf244
 t141:=Tryz.underlying263
 a141:=Tryz.isAgg263
 z141:=Tryz.sizeOf263
 v141:=Tryz.zeroValue263
 t152:=Tryz.underlying259
 a152:=Tryz.isAgg259
 z152:=Tryz.sizeOf259
 v152:=Tryz.zeroValue259
 t154:=Tryz.underlying261
 a154:=Tryz.isAgg261
 z154:=Tryz.sizeOf261
 v154:=Tryz.zeroValue261
 t193:=Tryz.underlying275
 a193:=Tryz.isAgg275
 z193:=Tryz.sizeOf275
 v193:=Tryz.zeroValue275
 t194:=Tryz.underlying276
 a194:=Tryz.isAgg276
 z194:=Tryz.sizeOf276
 v194:=Tryz.zeroValue276
 t196:=Tryz.underlying278
 a196:=Tryz.isAgg278
 z196:=Tryz.sizeOf278
 v196:=Tryz.zeroValue278
 t198:=Tryz.underlying281
 a198:=Tryz.isAgg281
 z198:=Tryz.sizeOf281
 v198:=Tryz.zeroValue281
 t201:=Tryz.underlying284
 a201:=Tryz.isAgg284
 z201:=Tryz.sizeOf284
 v201:=Tryz.zeroValue284
 t226:=Tryz.underlying290
 a226:=Tryz.isAgg290
 z226:=Tryz.sizeOf290
 v226:=Tryz.zeroValue290
 t227:=Tryz.underlying291
 a227:=Tryz.isAgg291
 z227:=Tryz.sizeOf291
 v227:=Tryz.zeroValue291
 g0:=by kernel_rfl
 g6:=by kernel_rfl
 i0:=by kernel_rfl
 i3:=by kernel_rfl
 i4:=by kernel_rfl
 i5:=by kernel_rfl
 i9:=by kernel_rfl
 i21:=by kernel_rfl
 i31:=by kernel_rfl
 i40:=by kernel_rfl
 i46:=by kernel_rfl
 i49:=by kernel_rfl
 i51:=by kernel_rfl
 i141:=by kernel_rfl
 i152:=by kernel_rfl
 i154:=by kernel_rfl
 i193:=by kernel_rfl
 i194:=by kernel_rfl
 i196:=by kernel_rfl
 i198:=by kernel_rfl
 i201:=by kernel_rfl
 i226:=by kernel_rfl
 i227:=by kernel_rfl
 m0:=by kernel_rfl
 m6:=by kernel_rfl }
open Go.RowKit Go.Lib in
theorem Tryz.strings_Fields_laid (s:ByteArray) (w:World) (hs:s.size < 4294967281) (TA:∀ (j:Nat) b,s.data.toList[j]?=some b->b.toNat < 128) (zo:Lib.TabIs Tryz.prog w "strings.asciiSpace" .u8 Lib.asciiSpaceTab) :
  Calls Tryz.prog 216 #[.string s] w fun e w' =>
   e=.returned (.slice (some ⟨w.heap.size,0,none⟩) (Lib.fields s.data.toList).length (Lib.fields s.data.toList).length)/\w'=w.alloc (.cells ((Lib.fields s.data.toList).map fun l=>Value.string ⟨l.toArray⟩).toArray 9):=Any.strings_Fields_laid Tryz.O9 s w hs TA zo
def Tryz.Ds:Go.Shelf.Ren:=⟨fun | 20=>106 | n=>n,fun | 22=>40 | 3=>3 | 4=>4 | 0=>0 | n=>n,fun | n=>n⟩
theorem Tryz.CW:Go.Proofs.Lays2.n20 Tryz.prog Tryz.Ds:={
 mixed:=by kernel_rfl
 f20:=Tryz.func106.trans (congrArg some (by kernel_rfl))
 t0:=Tryz.underlying0
 a0:=Tryz.isAgg0
 z0:=Tryz.sizeOf0
 v0:=Tryz.zeroValue0
 t3:=Tryz.underlying3
 a3:=Tryz.isAgg3
 z3:=Tryz.sizeOf3
 v3:=Tryz.zeroValue3
 t4:=Tryz.underlying4
 a4:=Tryz.isAgg4
 z4:=Tryz.sizeOf4
 v4:=Tryz.zeroValue4
 t22:=Tryz.underlying40
 a22:=Tryz.isAgg40
 z22:=Tryz.sizeOf40
 v22:=Tryz.zeroValue40
 i3:=by kernel_rfl }
open Go.RowKit Go.Lib Go.Sort in
theorem Tryz.slices_Compact_int (blk off cap:Nat) (zs:List Int) (w:World) (hH:Holds (Value.int .i64) w blk off zs.toArray) (cK:zs.length<=9223372036854775807) (OJ:zs.length<=cap) :
  Calls Tryz.prog 106 #[.slice (some ⟨blk,off,none⟩) zs.length cap] w fun e w'=>e=.returned (.slice (some ⟨blk,off,none⟩) (Lib.compact zs).length cap)/\∃ q,w'=putRow (Value.int .i64) (Sort.ahead w q) blk off (Lib.compact zs++List.replicate (zs.length - (Lib.compact zs).length) 0).toArray:=Any.slices_Compact_int Tryz.CW blk off cap zs w hH cK OJ
open Go.RowKit Go.Lib Go.Sort in
theorem Tryz.slices_Compact_int_empty (a:Option Addr) (cap:Nat) (w:World) :
  Calls Tryz.prog 106 #[.slice a 0 cap] w fun e w'=>e=.returned (.slice a 0 cap)/\w'=w:=Any.slices_Compact_int_empty Tryz.CW a cap w
open Go.RowKit Go.Sort in
theorem Tryz.slices_Sort_int_none (p:Option Addr) (cap:Nat) (w:World) :
  Calls Tryz.prog 105 #[.slice p 0 cap] w fun e w'=>e=.returned (.tuple #[])/\w'=w:=Any.slices_Sort_int_none Tryz.HY p cap w
end Go.Proofs
set_option maxHeartbeats 1000000
namespace Go.Xg
open Go.RowKit Go.Xw Go.Proofs
attribute [local irreducible] GW GL GO YG GC GA aW aZ
instance:Cg Tryz.prog 143 5:=Cg.mk' (al)
instance:Ba Tryz.prog 225:=Ba.mk' (e:=227) (al) (al)
theorem Gq (g:Value):GF Tryz.prog 263 [.loc 0 0] [.box 227 [.loc 0 0,.v g]] (.tup []) [.box 227 [.loc 0 0,.v g]]:=by
 refine aj Tryz.func263 Tryz.ntmps263 ?_;exact fO
theorem rb (s:ai) (n:Nat) (a:Option Addr) (c:Nat) (rows:List (List GV)) (hn:rows.length=n) (hb:n+s.length<=140737488355328) :
  GC Tryz.prog 229 [.loc 0 0,.v (sv s)] [.box 227 [.loc 0 0,.v (.slice a n c)],.vech 5 1 rows (.slice a n c)] (fun g aJ=>(∃ x,g=.tup [.v (ii s.length),x])/\∃ a c,aJ=[.box 227 [.loc 0 0,.v (.slice a (n+s.length) c)],.vech 5 1 (rows++b7 s) (.slice a (n+s.length) c)]):=by
 subst hn;have h:=Gq (.slice a rows.length c)
 cases s with
 | nil =>
  refine aj Tryz.func229 Tryz.ntmps229 ?_;refine ab [0] (h) ?_;refine GL.Vn 1 rfl rfl rfl (by simpa using hb) ?_;refine bK ?_;refine ae ?_;refine ye ?_;exact ⟨⟨_,rfl⟩,a,c,by simp [b7]⟩
 | cons x r =>
  generalize hs:x::r=s at *
  have bL:s.isEmpty=false:=by rw [<-hs];rfl
  clear hs;refine aj Tryz.func229 Tryz.ntmps229 ?_;refine ab [0] (h) ?_;refine GL.Vo 1 rfl rfl rfl (by first | rfl | assumption) (by assumption) ah ?_;intro a2 c2;refine bK ?_;refine ae ?_;refine ye ?_;exact ⟨⟨_,rfl⟩,a2,c2,rfl⟩
theorem NQ (str:ai) (a:Option Addr) (c:Nat) (h0:str≠[]) (hb:str.length<=140737488355328) :
  GF Tryz.prog 230 [.loc 0 0] [.box 227 [.loc 0 0,.v (.slice a str.length c)],.vech 5 1 (b7 str) (.slice a str.length c)] (.v (sv str)) [.box 227 [.loc 0 0,.v (.slice a str.length c)],.lost]:=by
 have hlen:(b7 str).length=str.length:=by simp [b7]
 have hp:Nat.blt 0 str.length=true:=by simpa using List.length_pos_iff.2 h0
 have bL:str.isEmpty=false:=by cases str with | nil=>exact absurd rfl h0 | cons _ _=>rfl
 refine aj Tryz.func230 Tryz.ntmps230 ?_;refine aE (aH [0,1,2,3,4,5,6,7,8,9] (.a 10 (.q 11 .nil))) ?_;refine ak ?_;refine Kh ?_;refine ak ?_;exact aw
end Go.Xg
namespace Go.Xg
open Go.RowKit Go.Xw Go.Proofs
open Go.Xp (bx)
theorem lL.oO {P:Program} {f:FuncId} {vs:List Value} {w:World} {R:Value->World->Prop} (h:Calls P f vs.toArray w fun e w'=>∃ v,e=.returned v/\R v w'):lL P f vs w R:=h
theorem GW.builder {Q:dH} {fr:List GV} {r1 r2:Nat} {rest:Code} {t8 t56 t57 t5:Tmp} {T1 T2 T3 T4 T5:TypeId} {p1 p2 p3:String} {a1 a2 a3:Array Edge} (n:Nat)
  (h8:jb fr t8=true) (WC:jb fr t56=true) (bL:Nat.beq t8 t56=false) (XV:Nat.beq t5 t8=false) (hn:cq fr t5=.v (ii (n:Nat))) (hb:n<=281474976710656)
  (h:∀ a c,GW Tryz.prog 0 rest Q (bo (bo (bo fr t8 (.loc 0 0)) t56 (.v (ii (n:Nat)))) t57 (.v (.tuple #[]))) [.box 227 [.loc 0 0,.v (.slice a 0 c)],.vech 5 1 [] (.slice a 0 c)]) :
  GW Tryz.prog 0 (.seq (.region r1 [(⟨some t8,.alloc 227,T1,p1,a1,none⟩:Oper)].toArray false) (.seq (.region r2 [(⟨some t56,.move (.tmp t5),T2,p2,a2,none⟩:Oper),⟨some t57,.call ⟨.value (.func 228),[Operand.tmp t8,.tmp t56].toArray,#[T3,T4]⟩,T5,p3,a3,none⟩].toArray false) rest)) Q fr []:=fun B K β w l hm hI hF=>by
 have EB:t8≠t56:=by intro e;subst e;simp at bL
 have QC:t5≠t8:=by intro e;subst e;simp at XV
 have i8:=lR hF h8;have i56:=lR hF WC;refine W.seq (W.region (WL.alloc (t:=227) fun b w1 rn=>WL.nil ?_));refine W.seq (W.region (WL.v R.mv (WL.call (f:=228) (Bd:=[.pointer (some ⟨b,0,none⟩),.int .i64 n]) ?_ (R:=fun x w2=>x=.tuple #[]/\(Lib.BuilderAt 227 5 b b (.pointer (some ⟨b,0,none⟩)) [] w2/\Below b w1 w2)) ?_ fun x w2 hx=>WL.nil ?_)))
 ·have Y0:FR K (en β 0 (.fix b)) (bo fr t8 (.loc 0 0)) (put l (some t8) (.pointer (some ⟨b,0,none⟩))) :=
   (hF.mono (cj.refl K) (fM (i:=0) (x:=.fix b) (by rw [hI.out 0 (Nat.le_refl _)];trivial))).eK t8 (.loc 0 0 b bc)
  have ZZ:jb (eK l t8 (.pointer (some ⟨b,0,none⟩))) t56=true:=lR Y0 (t:=t56) (by rw [HT];exact WC)
  have e5:nth (eK l t8 (.pointer (some ⟨b,0,none⟩))) t5=.int .i64 n:=by
   rw [nt QC];exact Rel.eo (by rw [<-hn];exact hF.nth t5)
  show [nth (eK (eK l t8 (.pointer (some ⟨b,0,none⟩))) t56 (nth (eK l t8 (.pointer (some ⟨b,0,none⟩))) t5)) t8,nth (eK (eK l t8 (.pointer (some ⟨b,0,none⟩))) t56 (nth (eK l t8 (.pointer (some ⟨b,0,none⟩))) t5)) t56]=_;rw [nt EB,rI i8,rI ZZ,e5]
 ·refine lL.oO (Calls.mono (Tryz.Builder_Grow_fresh b b n w1 (Nat.le_refl _) rn.blk (by have:=rn.size;omega) hb) ?_);rintro e w' ⟨h1,h2⟩;exact ⟨_,h1,rfl,h2⟩
 ·obtain ⟨rfl,⟨_,v,kJ,eS,qL⟩,Em⟩:=hx;have eS:gi w2 b 5 1 v 0 []:=eS;obtain ⟨a,c,rfl⟩:=eS.shape;have s9:=rn.fresh;have gn:Ext gQ w w2:=⟨Em.os.trans rn.ext.os,Em.tape.trans rn.ext.tape,Em.output.trans rn.ext.output,Nat.le_trans rn.ext.size Em.size,fun k hk hs=>(Em.block k ah).trans (rn.ext.block k hk hs)⟩;have nC:=hI.same gn
  have bT:∀ i,β i=.no:=fun i=>hI.out i (Nat.zero_le _)
  have Ts:∀ o,K b o=none:=fun o=>by
   cases hk:K b o with
   | none=>rfl
   | some g=>have:=hI.fz.lt hk;omega
  have W0:=hI.ext.size;have aao:=hI.tab.pow.lt;have ma:=hI.tab.spc.lt;have TN:cX β (en β ([]:List Ob).length (.fix b)):=fM (by rw [bT];trivial)
  have Eh:=nC.Qb (x:=.fix b) (y:=.box 227 [.loc 0 0,.v (.slice a 0 c)]) (fun b' bj=>by
   cases bj
   exact ⟨fun i hi=>(by rw [bT] at hi;cases hi),by omega,by omega,by omega⟩) (by
   refine ⟨b,[.pointer (some ⟨b,0,none⟩),.slice a 0 c],bc,kJ,.cons (.loc 0 0 b bc) (.cons (.v _) .nil),Ts⟩) TN
  have An:gi w2 0 5 1 (.slice a 0 c) 0 []:=eS.base (Nat.zero_le _)
  have Qs:∀ g,(Value.slice a 0 c).ownBlock=some g->b < g:=fun g hg=>by
   have h1:=(eS.lt hg).1
   have h2:g≠b:=fun e=>qL (by rw [hg,e])
   omega
  have yz:en β ([]:List Ob).length (.fix b) 1=.no:=by rw [bA (by decide)];exact bT 1
  have zm:cX (en β ([]:List Ob).length (.fix b)) (en (en β ([]:List Ob).length (.fix b)) 1 (.gr (.slice a 0 c) 0)):=fM (by rw [yz];trivial)
  have Y4:=Eh.Qb (x:=.gr (.slice a 0 c) 0) (y:=.vech 5 1 [] (.slice a 0 c)) (fun g hg=>by
   have:=Qs g hg;refine ⟨fun i hi=>?_,by omega,by omega,by omega⟩
   rcases lu hi with h1 | h1
   ·cases h1;omega
   ·rw [bT] at h1;cases h1) (by
   refine ⟨[],bc,An,aY.nil,(fun r hr=>by cases hr),fun g hg o=>?_⟩
   cases hk:K g o with
   | none=>rfl
   | some y=>have:=hI.fz.lt hk;have:=Qs g hg;omega) zm
  refine h a c B K _ w2 _ hm Y4 ?_;have Y1:=(hF.mono (cj.refl K) TN).mono (cj.refl K) zm;refine ((Y1.eK t8 (.loc 0 0 b ?_)).eK t56 ?_).eK t57 (.v _)
  ·rw [bA (by decide)];exact bc
  ·have e5:nth (eK l t8 (.pointer (some ⟨b,0,none⟩))) t5=.int .i64 n:=by
    rw [nt QC];exact Rel.eo (by rw [<-hn];exact hF.nth t5)
   rw [show ev (put l (some t8) (.pointer (some ⟨b,0,none⟩))) (.tmp t5)=.int .i64 n from e5];exact .v _
end Go.Xg
namespace Go.Xg
open Go.RowKit Go.Xw Go.Proofs
open Go.Xp (bx)
attribute [local irreducible] GW GL GO YG GC GA aW aZ
theorem sV (a b:ai):b7 (a++b)=b7 a++b7 b:=by simp [b7]
def mf (l:List ai):Nat:=(l.map List.length).sum
theorem CR:∀ (r:List ai) (x:ai),(bx (x::r)).length=mf (x::r)+2 * r.length
 | [],x=>by simp [bx,mf]
 | y::r,x=>by
  have:=CR r y;simp only [bx,mf,length_append,List.map_cons,sum_cons,List.flatMap_cons,length_cons] at this |-;omega
def gj (l:List ai):ai:=l.flatMap fun y=>44::32::y
theorem LH (a b:List ai):gj (a++b)=gj a++gj b:=by unfold gj;rw [List.flatMap_append]
theorem RF (l:List ai) (k:Nat):(gj (l.take k)).length<=(gj l).length:=by
 have:gj l=gj (l.take k)++gj (l.drop k):=by rw [<-LH,List.take_append_drop]
 rw [this,length_append];omega
theorem Tl (y:ai):gj [y]=[44,32]++y:=by simp [gj]
theorem O0 (x:ai) (r:List ai):bx (x::r)=x++gj r:=rfl
theorem Kz (l:List ai) (hb:(bx l).length<=1099511627776) (hl:l.length<=1099511627776):GF Tryz.prog 196 [strs l,.v (sv [44,32])] [] (.v (sv (bx l))) []:=by
 match l,hb,hl with
 | [],hb,hl =>
  refine aj Tryz.func196 Tryz.ntmps196 ?_;exact aq
 | [x],hb,hl =>
  have hr:([x].map fun s=>[GV.v (sv s)])[0]?=some [.v (sv x)]:=rfl
  have e:bx [x]=x:=by simp [bx]
  rw [e];refine aj Tryz.func196 Tryz.ntmps196 ?_;exact aq
 | x::y::r,hb,hl =>
  have qO:((x::y::r).map fun s=>[GV.v (sv s)])[0]?=some [.v (sv x)]:=rfl;have hlen:=CR (y::r) x
  have yJ:x.length<=1099511627776:=by simp only [bx,length_append] at hb;omega
  generalize hL:(x::y::r)=l at *
  have ja:2<=l.length:=by rw [<-hL];simp
  have eu:(l.map fun s=>[GV.v (sv s)]).length=l.length:=by simp
  have yz:Nat.blt 1 (l.map fun s=>[GV.v (sv s)]).length=true:=by rw [eu];simpa [Nat.blt] using ja
  have CI:(((l.map fun s=>[GV.v (sv s)]).length:Int)==0)=false:=by rw [eu];simp only [beq_eq_false_iff_ne,ne_eq];omega
  have EA:(((l.map fun s=>[GV.v (sv s)]).length:Int)==1)=false:=by rw [eu];simp only [beq_eq_false_iff_ne,ne_eq];omega
  have hq:decide ((9223372036854775807:Int) / (((l.map fun s=>[GV.v (sv s)]).length:Int) - 1)<=2)=false:=by
   rw [eu]
   have h3:(3:Int)<=9223372036854775807 / ((l.length:Int) - 1):=by
    rw [Int.le_ediv_iff_mul_le ah];omega
   simp;omega
  refine aj Tryz.func196 Tryz.ntmps196 ?_;apply GL.q
  ·exact YG.mul (a:=2) (b:=((l.map fun s=>[GV.v (sv s)]).length:Int) - 1) rfl rfl ah
  refine bZ ?_;refine ae ?_;refine GW.range (l.map fun s=>[GV.v (sv s)]).length (fun k fr Γ=>fr=[strs l,.v (sv [44,32]),.U,.U,.U,.v (ii (0+2 * (((l.map fun s=>[GV.v (sv s)]).length:Int) - 1)+((mf (l.take k):Nat):Int))),.U,.U,.U,.U,.U,.U,.U,.U,.U,.U,.U,.U,.U,.U,.U,.U,.U,.U,.U,.U,.U,.U,.U,.U,.U,.U,.U,.U,.U,.U,.U,.U,.U,strs l,.v (ii ((l.map fun s=>[GV.v (sv s)]).length:Int)),.v (ii (k:Nat)),.U,.U,.U,.U,.U,.U,.U,.U,.U,.U,.U,.U,.U,.U,.U,.U,.U,.U,.U,.U,.U,.U,.U,.U,.U,.U,.U,.U,.U,.U,.U,.U,.U]/\Γ=[]) ?_ ah ?_ ?_ ?_
  ·refine ⟨_,_,Wk.ax (bV:=[strs l,.v (sv [44,32]),.U,.U,.U,.v (ii (0+2 * (((l.map fun s=>[GV.v (sv s)]).length:Int) - 1))),.U,.U,.U,.U,.U,.U,.U,.U,.U,.U,.U,.U,.U,.U,.U,.U,.U,.U,.U,.U,.U,.U,.U,.U,.U,.U,.U,.U,.U,.U,.U,.U,.U,strs l,.v (ii ((l.map fun s=>[GV.v (sv s)]).length:Int)),.v (ii (0:Nat)),.U,.U,.U,.U,.U,.U,.U,.U,.U,.U,.U,.U,.U,.U,.U,.U,.U,.U,.U,.U,.U,.U,.U,.U,.U,.U,.U,.U,.U,.U,.U,.U,.U]) ao,?_,rfl⟩;rw [List.take_zero,show ((mf []:Nat):Int)=0 from rfl,Int.add_zero]
  ·rintro k _ _ ⟨rfl,rfl⟩;exact ⟨rfl,rfl,rfl⟩
  ·rintro k _ _ ar ⟨rfl,rfl⟩;rw [eu] at ar
   have cQ:l[k]?=some l[k]:=by simp [ar]
   have sf:(l.map fun s=>[GV.v (sv s)])[k]?=some [.v (sv l[k])]:=by rw [getElem?_map,cQ];rfl
   have hs:mf (l.take (k+1))=mf (l.take k)+l[k].length:=by unfold mf;rw [take_add_one,cQ,map_append,List.sum_append];simp only [Option.toList,List.map_cons,map_nil,sum_cons,List.sum_nil,Nat.add_zero]
   have hle:mf (l.take (k+1))<=mf l:=by
    have:mf l=mf (l.take (k+1))+mf (l.drop (k+1)):=by
     unfold mf;rw [<-List.sum_append,<-map_append,List.take_append_drop]
    omega
   generalize l[k]=z at *;rw [show (0+2 * (((l.map fun s=>[GV.v (sv s)]).length:Int) - 1)+((mf (l.take (k+1)):Nat):Int))=0+2 * (((l.map fun s=>[GV.v (sv s)]).length:Int) - 1)+((mf (l.take k):Nat):Int)+(z.length:Int) by rw [hs];omega]
   have hov:decide (9223372036854775807 - (0+2 * (((l.map fun s=>[GV.v (sv s)]).length:Int) - 1)+((mf (l.take k):Nat):Int)) < (z.length:Int))=false:=by
    simp only [decide_eq_false_iff_not];omega
   refine ae ?_;exact ⟨rfl,rfl,_,_,Wk.ax ao,rfl,rfl⟩
  ·rintro _ _ ⟨rfl,rfl⟩;rw [eu,take_length]
   have hN:(0+2 * ((l.length:Int) - 1)+((mf l:Nat):Int))=(((bx l).length:Nat):Int):=by
    have:(y::r).length+1=l.length:=by rw [<-hL];simp
    omega
   rw [hN];refine aK ?_
   refine GW.builder (bx l).length rfl rfl rfl rfl rfl ah fun a c=>?_
   refine ae ?_;refine bO [0,1] (rb x 0 a c [] rfl ah) ?_;rintro _ _ ⟨⟨u1,rfl⟩,a1,c1,rfl⟩;refine ct ?_;refine ae ?_
   have key:∀ k,(x++gj ((y::r).take k)).length<=1099511627776:=fun k=>by
    have h1:=RF (y::r) k;rw [<-hL,O0,length_append] at hb;rw [length_append];omega
   refine GW.range ((y::r).map fun s=>[GV.v (sv s)]).length (fun k fr Γ=>∃ acc a c,fr=[.U,.v (sv [44,32]),.U,.U,.U,.U,.U,.U,.loc 0 0,.U,.U,.U,.U,.U,.U,.U,.U,.U,.U,.U,.U,.U,.U,.U,.U,.U,.U,.U,.U,.U,.U,.U,.U,.U,.U,.U,.U,.U,.U,.U,.U,.U,.U,.U,.U,.U,.U,.U,.U,.U,.U,.U,.U,.U,.U,.U,.U,.U,.U,.U,.U,.U,.U,strs (y::r),.v (ii (((y::r).map fun s=>[GV.v (sv s)]).length:Int)),.v (ii (k:Nat)),.U,.U,.U,.U,.U,.U,.U,.U,.U]/\acc=x++gj ((y::r).take k)/\Γ=[.box 227 [.loc 0 0,.v (.slice a acc.length c)],.vech 5 1 (b7 acc) (.slice a acc.length c)]) ?_ ?_ ?_ ?_ ?_
   ·rw [show 0+x.length=x.length from Nat.zero_add _];subst hL;exact ⟨_,_,Wk.ax ao,x,a1,c1,rfl,by simp [gj],rfl⟩
   ·have:((y::r).map fun s=>[GV.v (sv s)]).length+1=l.length:=by rw [<-hL];simp
    omega
   ·rintro k _ _ ⟨acc,a,c,rfl,_,rfl⟩;exact ⟨rfl,rfl,rfl⟩
   ·rintro k _ _ ar ⟨acc,a,c,rfl,kB,rfl⟩
    have ar:k < (y::r).length:=by simpa using ar
    have cQ:(y::r)[k]?=some (y::r)[k]:=by simp [ar]
    have sf:((y::r).map fun s=>[GV.v (sv s)])[k]?=some [.v (sv (y::r)[k])]:=by rw [getElem?_map,cQ];rfl
    have bt:x++gj ((y::r).take (k+1))=(acc++[44,32])++(y::r)[k]:=by
     rw [take_add_one,cQ,LH,<-List.append_assoc,<-kB,List.append_assoc]
     congr 1
     exact Tl _
    have td:=key k;have qJ:=key (k+1);rw [bt] at qJ;rw [<-kB] at td;simp only [length_append,length_cons,length_nil] at qJ;generalize (y::r)[k]=z at *
    have VJ:(b7 acc).length=acc.length:=by simp [b7]
    refine ae ?_;refine bO [0,1] (rb [44,32] acc.length a c (b7 acc) VJ (by simp only [length_cons,length_nil];omega)) ?_;rintro _ _ ⟨⟨u1,rfl⟩,a2,c2,rfl⟩;refine ct ?_;rw [show b7 acc++[[GV.v (.int .u8 ((44:UInt8).toNat:Int))],[GV.v (.int .u8 ((32:UInt8).toNat:Int))]]=b7 (acc++[44,32]) by simp [b7],show acc.length+([44,32]:ai).length=(acc++[44,32]).length by simp];refine ae ?_;refine bO [0,1] (rb z (acc++[44,32]).length a2 c2 (b7 (acc++[44,32])) (by simp [b7]) (by simp only [length_append,length_cons,length_nil];omega)) ?_;rintro _ _ ⟨⟨u2,rfl⟩,a3,c3,rfl⟩;refine ct ?_
    have ez:List.length (acc++[44,32])+List.length z=List.length ((acc++[44,32])++z):=by simp only [length_append]
    rw [<-sV,ez];refine ae ?_;exact ⟨rfl,rfl,_,_,Wk.ax ao,(acc++[44,32])++z,a3,c3,rfl,bt.symm,rfl⟩
   ·rintro _ _ ⟨acc,a,c,rfl,kB,rfl⟩
    have hj:bx l=acc:=by
     rw [kB,<-hL,show ((y::r).map fun s=>[GV.v (sv s)]).length=(y::r).length by simp,take_length];rfl
    rw [hj] at hb hlen |-
    have bL:acc≠[]:=by
     intro h0;rw [h0] at hlen;simp at hlen
    have X8:=NQ acc a c bL ah;refine ae ?_;refine ab [0,1] (X8) ?_;exact aq
end Go.Xg
set_option maxHeartbeats 4000000
namespace Go.Xg
open Go.RowKit Go.Xw Go.Proofs
open Go.Im
section
variable {P:Program} {m:Nat} {fr:List GV} {Γ:List Ob}
theorem Wk.keep {n j E k:Nat} {rows:List (List GV)} {x:Value} (hm:m<=n) (hnj:n<=j) (hl:yQ n (Γ.take n)=true) (hlen:(Γ.take n).length=n) (bu:Γ[j]?=some (.vech E k rows x)) :
  Wk m fr Γ (SU n fr) (Γ.take n++[.vech E k rows x]):=fun B K β w l hB hI hF=>by
 have h:=hI.cut (n:=n) ah hl;obtain ⟨xs,o1,o2,o3,o4,o5⟩:=hI.ob j _ bu
 have Qv:∀ b,(Bk.gr x rows.length).blk=some b->(β j).blk=some b:=fun b hb=>by rw [o1];exact hb
 have OK:eZ (below n) β n=.no:=rJ (xG (Nat.le_refl n));have hold:cX (eZ (below n) β) (en (eZ (below n) β) n (.gr x rows.length)):=fM (by rw [OK];trivial)
 have bT:∀ b,(β j).blk=some b->∀ i,(eZ (below n) β i).blk≠some b:=fun b hb i hi=>by
  by_cases gI:i < n
  ·rw [gZ (xH gI)] at hi;have:=hI.dis i j b hi hb;omega
  ·rw [rJ (xG ah)] at hi;cases hi
 refine ⟨K,en (eZ (below n) β) n (.gr x rows.length),?_,(hF.res).mono (cj.refl K) hold⟩;refine ⟨h.ext,h.kle,h.ble.trans hold,h.loc,h.fz,fun i z hi=>?_,fun i hi=>?_,fun i i' b hi hj=>?_,fun i b hi=>?_,h.kn,⟨h.tab.le,h.tab.pow,h.tab.spc,fun i b hi=>?_⟩⟩
 ·by_cases we:i < n
  ·rw [getElem?_append_left ah] at hi;exact (h.ob i z hi).ext (S:=gQ) (Ext.refl w) (fun _ _ h=>h) (cj.refl K) hold (bA ah) (fun _ _ _ h=>h)
  ·have:i=n:=by have:=(List.getElem?_eq_some_iff.1 hi).1;rw [length_append,hlen,List.length_singleton] at this;omega
   subst this;rw [List.getElem?_append_right ah,hlen,Nat.sub_self] at hi;cases hi;refine ⟨xs,bc,o2,⟨o3.1,fun a v g h1 h2=>(o3.2 a v g h1 h2).pc ?_⟩,o4,o5⟩;obtain ⟨r,fR,c6⟩:=List.mem_flatten.1 (mem_of_getElem? h2);exact (o4 r fR).2 g c6
 ·rw [length_append,hlen,List.length_singleton] at hi;rw [bA ah];exact rJ (xG ah)
 ·by_cases h1:i=n <;> by_cases h2:i'=n
  ·omega
  ·subst h1;rw [bc] at hi;rw [bA h2] at hj;exact absurd hj (bT b (Qv b hi) i')
  ·subst h2;rw [bc] at hj;rw [bA h1] at hi;exact absurd hi (bT b (Qv b hj) i)
  ·rw [bA h1] at hi;rw [bA h2] at hj;exact h.dis i i' b hi hj
 ·rcases lu hi with h1 | h1
  ·exact hI.own j b (Qv b h1)
  ·exact h.own i b h1
 ·rcases lu hi with h1 | h1
  ·exact hI.tab.free j b (Qv b h1)
  ·exact h.tab.free i b h1
end
theorem Inv.renew {B:Bs} {K:Fz} {β:Bt} {Γ:List Ob} {w w':World} {i E k:Nat} {rows rows':List (List GV)} {x:Value} {xs:List Value} (h:Inv B K β Γ w) (hi:Γ[i]?=some (.vech E k rows x)) (hl:rows'.length=rows.length)
  (ho:gi w' 0 E k x rows'.length xs) (hr:aY K β xs rows'.flatten) (ew:fm k rows') (hx:Ext (fun b=>x.ownBlock=some b) w w'):Inv B K β (oset Γ i (.vech E k rows' x)) w':=by
 obtain ⟨xs0,h1,h2,h3,h4,h5⟩:=h.ob i _ hi
 have ea:∀ b,x.ownBlock=some b->(β i).blk=some b:=fun b hb=>by rw [h1];exact hb
 rw [ba];refine ⟨h.ext.step hx (fun j hj=>(h.own i j (ea j hj)).symm),h.kle,h.ble,h.loc,h.fz.ext hx (fun b o g hg he=>by rw [h5 b he o] at hg;cases hg),fun j y hj=>?_,fun j hj=>h.out j (by simpa using hj),h.dis,h.own,h.kn,h.tab.step hx (fun j hj=>⟨i,ea j hj⟩) (cj.refl K) (fun i b2 h=>.inl ⟨i,h⟩)⟩;rw [List.getElem?_set] at hj;split at hj
 ·rename_i fw;split at hj
  ·cases hj;subst fw
   exact ⟨xs,by rw [hl];exact h1,ho,hr,ew,h5⟩
  ·cases hj
 ·rename_i fw;exact (h.ob j y hj).ext hx (fun b hb he=>fw (h.dis i j b (ea b he) hb)) (cj.refl K) (cX.refl β) rfl (fun _ _ _ h=>h)
theorem CP (l:List Int):(bp l).flatten=l.map fun i=>GV.v (ii i):=by
 unfold bp
 induction l with
 | nil=>rfl
 | cons a l ih=>rw [List.map_cons,flatten_cons,ih];rfl
theorem c8 (l:List Int):(bp l).length=l.length:=by simp [bp]
theorem HU (l:List Int):fm 1 (bp l):=fun r hr=>by
 obtain ⟨i,_,rfl⟩:=List.mem_map.1 hr;exact ⟨rfl,fun g hg=>by rw [List.mem_singleton.1 hg];rfl⟩
theorem Da {K:Fz} {β:Bt} (l:List Int):aY K β (l.map (Value.int .i64)) ((bp l).flatten):=by
 rw [CP];refine ⟨by simp,fun i v g h1 h2=>?_⟩;rw [getElem?_map] at h1 h2
 cases hl:l[i]? with
 | none=>rw [hl] at h1;cases h1
 | some z=>rw [hl] at h1 h2;cases h1;cases h2;exact .v _
theorem wv {K:Fz} {β:Bt} {xs:List Value} {l:List Int} (h:aY K β xs ((bp l).flatten)):xs=l.map (Value.int .i64):=by
 rw [CP] at h;apply List.ext_getElem?;intro i;rw [getElem?_map]
 cases hl:l[i]? with
 | none =>
  have:=h.1;rw [length_map] at this;have h2:=List.getElem?_eq_none_iff.1 hl;rw [getElem?_eq_none ah];rfl
 | some z =>
  obtain ⟨v,hv,hr⟩:=h.at (i:=i) (g:=.v (ii z)) (by rw [getElem?_map,hl];rfl);rw [hv,Rel.eo hr];rfl
theorem Hv {w:World} {g q:Nat} {d:Array Int} {os:Array Obj}:Ext (fun b=>b=g) w (Go.Sort.grow (Go.Sort.putRow (Value.int .i64) (Go.Sort.ahead w q) g 0 d) os):=by
 refine ⟨rfl,rfl,rfl,by simp [Go.Sort.grow,Go.Sort.putRow,Go.Sort.mapBlock,Go.Sort.ahead],fun k hk hn=>?_⟩;simp only [Go.Sort.grow,Go.Sort.putRow,Go.Sort.mapBlock,Go.Sort.ahead];rw [Array.getElem?_append_left (by simpa using hk),Array.getElem?_modify,if_neg ah]
theorem QX {K:Fz} {β:Bt} {vs:List Value} {x:Value} (h:aY K β vs [.v x]):vs=[x]:=by
 match vs,h.1 with
 | [v],_=>rw [Rel.eo h.mZ.1]
theorem KD (zs:List Int) (E:TypeId) (a:Option Addr) (c:Nat) (hz:zs.length<=1099511627776) :
  GF Tryz.prog 105 [.v (.slice a zs.length c)] [.vech E 1 (bp zs) (.slice a zs.length c)] (.tup []) [.vech E 1 (bp (fZ zs)) (.slice a zs.length c)]:=fun B K β w vs hm hI hF=>by
 obtain rfl:=QX hF;obtain ⟨xs,h1,h2,h3,h4,h5⟩:=hI.ob 0 _ rfl;have oL:=wv h3;subst oL;rw [c8] at h2
 by_cases hn:(Value.slice a zs.length c)=.slice none 0 0
 ·injection hn with e1 e2 e3
  have EP:zs=[]:=List.eq_nil_of_length_eq_zero e2;subst EP;subst e1;refine lL.oO (Calls.mono (Tryz.slices_Sort_int_none none c w) ?_);rintro e w' ⟨he,rfl⟩;exact ⟨_,he,K,β,.tup [],_,hI,.tup [] [] rfl (fun i v g h=>by simp at h),rfl,by rw [show fZ []=[] by simp [fZ]]⟩
 ·obtain ⟨g,cap,hv,mK,WK,nZ,wb,ZV,hH⟩:=Go.Lib.holds_of_ownsRow h2 hn
  injection hv with e1 e2 e3
  subst e1;subst e3;refine lL.oO (Calls.mono (Tryz.slices_Sort_int g 0 c zs w hH WK ah) ?_);rintro e w' ⟨he,n,os,rfl⟩;have eS:=Go.Lib.ownsRow_putRow (q:=n) (k:=zs.length) (ys:=fZ zs) h2 (mT zs) (Nat.le_refl _);rw [take_of_length_le (by rw [mT];exact Nat.le_refl _)] at eS;have Jp:=Go.Lib.ownsRow_grow eS 0 os;refine ⟨_,he,K,β,.tup [],_,hI.renew (i:=0) rfl (rows':=bp (fZ zs)) (xs:=(fZ zs).map (Value.int .i64)) (by rw [c8,c8,mT]) ?_ (Da _) (HU _) ?_,.tup [] [] rfl (fun i v g h=>by simp at h),rfl,rfl⟩
  ·rw [c8,mT];exact Jp
  ·exact (Hv (w:=w) (g:=g) (q:=n) (d:=(fZ zs).toArray) (os:=os)).mono fun b _ hb=>by rw [hb];rfl
theorem PE {K:Fz} {β:Bt} {g n c k:Nat} {rows:List (List GV)} (h:Rel K β (.slice (some ⟨g,0,none⟩) n c) (.sl k rows)) (bL:rows≠[]) :
  ∀ (i:Nat) r,rows[i]?=some r->r.length=k/\∀ (j:Nat) gg,r[j]?=some gg->K g (0+i * k+j)=some gg:=by
 generalize hv:Value.slice (some ⟨g,0,none⟩) n c=v at h
 cases h with
 | sl0 a c k=>exact absurd rfl bL
 | sl b o c k rows h hc =>
  injection hv with e1 e2 e3
  injection e1 with e1
  injection e1 with e1 e4
  subst e1;subst e4;exact h
theorem Kq (zs:List Int) (E:TypeId) (a:Option Addr) (c:Nat) (hz:zs.length<=1099511627776) (Eo:(Go.Lib.compact zs).length<=zs.length) :
  GC Tryz.prog 106 [.v (.slice a zs.length c)] [.vech E 1 (bp zs) (.slice a zs.length c)] fun g Δ=>g=ints (Go.Lib.compact zs)/\∃ fz S,Δ=[.vec E 1 fz S]:=fun B K β w vs hm hI hF=>by
 obtain rfl:=QX hF;obtain ⟨xs,h1,h2,h3,h4,h5⟩:=hI.ob 0 _ rfl;have oL:=wv h3;subst oL;rw [c8] at h2
 by_cases EP:zs=[]
 ·subst EP;refine lL.oO (Calls.mono (Tryz.slices_Compact_int_empty a c w) ?_);rintro e w' ⟨he,rfl⟩;exact ⟨_,he,K,β,ints [],_,hI.xB (i:=0) rfl,.sl0 a c 1,rfl,_,_,rfl⟩
 ·have hn:(Value.slice a zs.length c)≠.slice none 0 0:=fun hn=>by
   injection hn with e1 e2 e3
   exact EP (List.eq_nil_of_length_eq_zero e2)
  obtain ⟨g,cap,hv,mK,WK,nZ,wb,ZV,hH⟩:=Go.Lib.holds_of_ownsRow h2 hn
  injection hv with e1 e2 e3
  subst e1;subst e3;refine lL.oO (Calls.mono (Tryz.slices_Compact_int g 0 c zs w hH ah nZ) ?_);rintro e w' ⟨he,q,rfl⟩;generalize hcz:Go.Lib.compact zs=cz at *;generalize QK:cz++List.replicate (zs.length - cz.length) (0:Int)=ys at *
  have EO:ys.length=zs.length:=by rw [<-QK,length_append,List.length_replicate];omega
  have eS:=Go.Lib.ownsRow_putRow (q:=q) (k:=zs.length) (ys:=ys) h2 EO (Nat.le_refl _);rw [take_of_length_le ah] at eS;have nC:=hI.renew (i:=0) rfl (rows':=bp ys) (xs:=ys.map (Value.int .i64)) (w':=Go.Sort.putRow (Value.int .i64) (Go.Sort.ahead w q) g 0 ys.toArray) (by rw [c8,c8,EO]) (by rw [c8,EO];exact eS) (Da _) (HU _)
   (by
    have:=(Hv (w:=w) (g:=g) (q:=q) (d:=ys.toArray) (os:=#[]));rw [Go.Sort.grow_empty] at this
    exact this.mono fun b _ hb=>by rw [hb];rfl)
  obtain ⟨K',hK,hr,Eh⟩:=nC.qz (i:=0) rfl;refine ⟨_,he,K',β,ints cz,_,Eh,?_,rfl,_,_,rfl⟩
  have ja:zs.length=(bp ys).length:=by rw [c8,EO]
  rw [ja] at hr;have En:=PE hr (fun e=>EP (List.eq_nil_of_length_eq_zero (by rw [ja,e];rfl)))
  have TD:cz.length=(cz.map fun i=>[GV.v (ii i)]).length:=by simp
  rw [TD];refine .sl g 0 c 1 _ (fun i r h=>?_) (by rw [<-TD];omega);refine En i r ?_;have hi:=(List.getElem?_eq_some_iff.1 h).1;rw [length_map] at hi;rw [<-QK];unfold bp;rw [map_append,getElem?_append_left (by rw [length_map];exact hi)];exact h
end Go.Xg
namespace Go.Im
open Go.Xp Go.Sp
end Go.Im
namespace Go.Xg
open Go.RowKit Go.Xw Go.Proofs
open Go.Xp (Nd T Ar aO az cx)
open Go.Sp (Src)
open Go.Im
attribute [local irreducible] GW GL GO YG GC GA aW aZ
end Go.Xg
set_option maxHeartbeats 1000000
namespace Go.Xg
open Go.RowKit Go.Xw Go.Proofs
open Go.Xp (Tok Nd T bd one levels Ar)
open Go.Sp
attribute [local irreducible] GW GL GO YG GC GA aW aZ
theorem Vw (p:Src) (hp:p.nodes.length<=1000000000000) (hk:∀ n∈p.nodes,n.kids.length<=1000000000000):∀ (f a d:Nat) (e:Int),d<=801->nJ p.nodes f a d=some e->GF Tryz.prog 188 [.agg (av p),.v (ii (a:Nat)),.v (ii (d:Nat))] [] (.v (ii e)) []:=by
 intro f
 induction f using Nat.strongRecOn with
 | _ f ih =>
 intro a d e hd h
 cases f with
 | zero=>simp [nJ] at h
 | succ f =>
 rw [nJ] at h;refine da Tryz.func188 Tryz.ntmps188 ?_
 by_cases h1:p.nodes.length<=a
 ·rw [if_pos (.inl h1)] at h;cases h
  have cv:decide (((p.nodes.map ay).length:Int)<=(a:Int))=true:=by simpa using h1
  exact aw
 have cv:decide (((p.nodes.map ay).length:Int)<=(a:Int))=false:=by simpa using h1
 by_cases h2:d > 800
 ·rw [if_pos (.inr h2)] at h;cases h
  have pK:decide ((800:Int) < (d:Int))=true:=by simpa using by omega
  exact aw
 have pK:decide ((800:Int) < (d:Int))=false:=by simpa using by omega
 rw [if_neg ah] at h
 cases hn:p.nodes[a]? with
 | none=>rw [hn] at h;cases h
 | some n =>
 rw [hn] at h;simp only at h;have hr:=jw hn;have eW:=hk n (mem_of_getElem? hn);refine ae ?_
 refine GW.range (n.kids.map fun i=>[GV.v (ii i)]).length (fun k fr Γ=>∃ nx g,fr=[.U,.v (ii (a:Nat)),.v (ii (d:Nat)),.loc 0 0,.U,.U,.U,.v (ii nx),.U,.U,.U,.U,.U,.U,.U,.U,.U,.U,.U,.U,.U,.U,.U,.U,.U,.U,ints n.kids,.v (ii ((n.kids.map fun i=>[GV.v (ii i)]).length:Int)),.v (ii (k:Nat)),.U,.U,.U,.U,.U,.U,.U,.U,.U,.U,.U,.U,.U,.U,.U] /\
   Γ=[.box 34 (av p)]/\0<=nx/\g<=f/\mC p.nodes g (n.kids.drop k) nx d=some e) ?_ (by simp;omega) ?_ ?_ ?_
 ·exact ⟨_,_,Wk.ax ao,_,f,rfl,rfl,by omega,Nat.le_refl _,h⟩
 ·rintro k _ _ ⟨_,_,rfl,rfl,_⟩;exact ⟨rfl,rfl,rfl⟩
 ·rintro k _ _ ar ⟨nx,g,rfl,rfl,jW,hg,h⟩
  have ar:k < n.kids.length:=by simpa using ar
  have hx:n.kids[k]?=some n.kids[k]:=by simp [ar]
  rw [drop_eq_getElem_cons ar] at h;generalize n.kids[k]=x at *;have wh:=oQ hx
  cases g with
  | zero=>simp [mC] at h
  | succ g =>
  rw [mC] at h
  by_cases hxn:x=nx
  ·subst hxn;rw [if_pos rfl] at h
   have hb:(x != x)=false:=by simp
   cases b6:nJ p.nodes g x.toNat (d+1) with
   | none=>rw [b6] at h;cases h
   | some y =>
   rw [b6] at h;simp only at h;have xV:=ih g ah x.toNat (d+1) y ah b6;rw [Int.toNat_of_nonneg jW] at xV
   by_cases hy:y < 0
   ·rw [if_pos hy] at h;cases h
    have Uj:decide (y < (0:Int))=true:=by simpa using hy
    refine ae ?_;refine ab [] (xV) ?_;exact aq
   ·rw [if_neg hy] at h
    have Uj:decide (y < (0:Int))=false:=by simpa using hy
    refine ae ?_;refine ab [] (xV) ?_;exact ⟨rfl,rfl,_,_,Wk.ax ao,_,g,rfl,rfl,by omega,by omega,h⟩
  ·rw [if_neg hxn] at h;cases h
   have hb:(x != nx)=true:=by simpa using hxn
   exact aw
 ·rintro _ _ ⟨nx,g,rfl,rfl,jW,hg,h⟩;rw [length_map,List.drop_length] at h
  have kB:nx=e:=by cases g <;> (rw [mC] at h;cases h;rfl)
  subst kB;exact aw
end Go.Xg
namespace Go.Xg
open Go.RowKit Go.Xw Go.Proofs
open Go.Xp (Tok Nd T bd one levels Ar)
open Go.Sp
attribute [local irreducible] GW GL GO YG GC GA aW aZ
theorem V9 (a n:Int) (s:ai) (ks:List Int) (l:List T) (hs:s.length<=1099511627776) (hl:l.length<=1099511627776) (ha:decide (a < 0)=false):GF Tryz.prog 217 [.agg (cT (.mk ⟨1,a,n,s,ks⟩ l))] [] (.v (.bool (bH (.mk ⟨1,a,n,s,ks⟩ l)))) []:=by
 have how:bH (.mk ⟨1,a,n,s,ks⟩ l)=(decide ((0:Int)<=n)&&(decide (n<=2147483647)&&((s==[])&&((l.length:Int)==0)))):=by unfold bH own;rw [if_neg (by show ¬ (decide (a < 0)=true);rw [ha];decide)];rfl
 rw [how];refine da Tryz.func217 Tryz.ntmps217 ?_
 cases h0:decide ((0:Int)<=n) with
 | false =>
  exact aw
 | true =>
  cases h1:decide (n<=2147483647) with
  | false =>
   exact aw
  | true =>
   cases h2:(s==[]) with
   | false =>
    exact aw
   | true =>
    refine ae ?_;refine bI ?_;exact ⟨by first | rfl | (rw [aQ];rfl),rfl⟩
theorem Wa (a:Int) (s:ai) (ks:List Int) (l:List T) (hs:s.length<=1099511627776) (hl:l.length<=1099511627776) (ha:decide (a < 0)=false):GF Tryz.prog 217 [.agg (cT (.mk ⟨2,a,0,s,ks⟩ l))] [] (.v (.bool (bH (.mk ⟨2,a,0,s,ks⟩ l)))) []:=by
 have how:bH (.mk ⟨2,a,0,s,ks⟩ l)=(bh s&&((l.length:Int)==0)):=by unfold bH own;rw [if_neg (by show ¬ (decide (a < 0)=true);rw [ha];decide)];rfl
 rw [how];refine da Tryz.func217 Tryz.ntmps217 ?_
 cases h0:bh s with
 | false =>
  refine ae ?_;have hc:=dS s hs;rw [h0] at hc;refine ab [] (hc) ?_;exact aq
 | true =>
  refine ae ?_;have hc:=dS s hs;rw [h0] at hc;refine ab [] (hc) ?_;refine bI ?_;exact ⟨by first | rfl | (rw [aQ];rfl),rfl⟩
theorem Wb (a:Int) (s:ai) (ks:List Int) (l:List T) (hs:s.length<=1099511627776) (hl:l.length<=1099511627776) (ha:decide (a < 0)=false):GF Tryz.prog 217 [.agg (cT (.mk ⟨3,a,0,s,ks⟩ l))] [] (.v (.bool (bH (.mk ⟨3,a,0,s,ks⟩ l)))) []:=by
 have how:bH (.mk ⟨3,a,0,s,ks⟩ l)=(bh s&&(((l.length:Int)==1)&&be 1 0 l)):=by unfold bH own;rw [if_neg (by show ¬ (decide (a < 0)=true);rw [ha];decide)];rfl
 rw [how];refine da Tryz.func217 Tryz.ntmps217 ?_
 cases h0:bh s with
 | false =>
  refine ae ?_;have hc:=dS s hs;rw [h0] at hc;refine ab [] (hc) ?_;exact aq
 | true =>
  cases h1:((l.length:Int)==1) with
  | false =>
   have cv:((((aP l).length:Int)==1))=false:=by rw [<-aQ l] at h1;exact h1
   refine ae ?_;have hc:=dS s hs;rw [h0] at hc;refine ab [] (hc) ?_;exact aq
  | true =>
   have cv:((((aP l).length:Int)==1))=true:=by rw [<-aQ l] at h1;exact h1
   refine ae ?_;have hc:=dS s hs;rw [h0] at hc;refine ab [] (hc) ?_;have hc:=eQ (.mk ⟨3,a,0,s,ks⟩ l) 1 hl;refine ab [] (hc) ?_;refine bI ?_;exact ⟨by first | rfl | (rw [aQ];rfl),rfl⟩
theorem Wc (a:Int) (s:ai) (ks:List Int) (l:List T) (hs:s.length<=1099511627776) (hl:l.length<=1099511627776) (ha:decide (a < 0)=false):GF Tryz.prog 217 [.agg (cT (.mk ⟨4,a,0,s,ks⟩ l))] [] (.v (.bool (bH (.mk ⟨4,a,0,s,ks⟩ l)))) []:=by
 have how:bH (.mk ⟨4,a,0,s,ks⟩ l)=(bh s&&be l.length 0 l):=by unfold bH own;rw [if_neg (by show ¬ (decide (a < 0)=true);rw [ha];decide)];rfl
 rw [how];refine da Tryz.func217 Tryz.ntmps217 ?_
 cases h0:bh s with
 | false =>
  refine ae ?_;have hc:=dS s hs;rw [h0] at hc;refine ab [] (hc) ?_;exact aq
 | true =>
  refine ae ?_;have hc:=dS s hs;rw [h0] at hc;refine ab [] (hc) ?_;have hc:=eQ (.mk ⟨4,a,0,s,ks⟩ l) (aP l).length hl;refine ab [] (hc) ?_;refine bI ?_;exact ⟨by first | rfl | (rw [aQ];rfl),rfl⟩
theorem We (a:Int) (s:ai) (ks:List Int) (l:List T) (hs:s.length<=1099511627776) (hl:l.length<=1099511627776) (ha:decide (a < 0)=false):GF Tryz.prog 217 [.agg (cT (.mk ⟨6,a,0,s,ks⟩ l))] [] (.v (.bool (bH (.mk ⟨6,a,0,s,ks⟩ l)))) []:=by
 have how:bH (.mk ⟨6,a,0,s,ks⟩ l)=(ej s&&(((l.length:Int)==2)&&be 2 0 l)):=by unfold bH own;rw [if_neg (by show ¬ (decide (a < 0)=true);rw [ha];decide)];rfl
 rw [how];refine da Tryz.func217 Tryz.ntmps217 ?_
 cases h0:ej s with
 | false =>
  refine ae ?_;have hc:=sw s;rw [h0] at hc;refine ab [] (hc) ?_;exact aq
 | true =>
  cases h1:((l.length:Int)==2) with
  | false =>
   have cv:((((aP l).length:Int)==2))=false:=by rw [<-aQ l] at h1;exact h1
   refine ae ?_;have hc:=sw s;rw [h0] at hc;refine ab [] (hc) ?_;exact aq
  | true =>
   have cv:((((aP l).length:Int)==2))=true:=by rw [<-aQ l] at h1;exact h1
   refine ae ?_;have hc:=sw s;rw [h0] at hc;refine ab [] (hc) ?_;have hc:=eQ (.mk ⟨6,a,0,s,ks⟩ l) 2 hl;refine ab [] (hc) ?_;refine bI ?_;exact ⟨by first | rfl | (rw [aQ];rfl),rfl⟩
theorem Wf (a:Int) (s:ai) (ks:List Int) (l:List T) (hs:s.length<=1099511627776) (hl:l.length<=1099511627776) (ha:decide (a < 0)=false):GF Tryz.prog 217 [.agg (cT (.mk ⟨7,a,0,s,ks⟩ l))] [] (.v (.bool (bH (.mk ⟨7,a,0,s,ks⟩ l)))) []:=by
 have how:bH (.mk ⟨7,a,0,s,ks⟩ l)=(bh s&&(((l.length:Int)==1)&&be 1 0 l)):=by unfold bH own;rw [if_neg (by show ¬ (decide (a < 0)=true);rw [ha];decide)];rfl
 rw [how];refine da Tryz.func217 Tryz.ntmps217 ?_
 cases h0:bh s with
 | false =>
  refine ae ?_;have hc:=dS s hs;rw [h0] at hc;refine ab [] (hc) ?_;exact aq
 | true =>
  cases h1:((l.length:Int)==1) with
  | false =>
   have cv:((((aP l).length:Int)==1))=false:=by rw [<-aQ l] at h1;exact h1
   refine ae ?_;have hc:=dS s hs;rw [h0] at hc;refine ab [] (hc) ?_;exact aq
  | true =>
   have cv:((((aP l).length:Int)==1))=true:=by rw [<-aQ l] at h1;exact h1
   refine ae ?_;have hc:=dS s hs;rw [h0] at hc;refine ab [] (hc) ?_;have hc:=eQ (.mk ⟨7,a,0,s,ks⟩ l) 1 hl;refine ab [] (hc) ?_;refine bI ?_;exact ⟨by first | rfl | (rw [aQ];rfl),rfl⟩
theorem Wg (a:Int) (s:ai) (ks:List Int) (l:List T) (hs:s.length<=1099511627776) (hl:l.length<=1099511627776) (ha:decide (a < 0)=false):GF Tryz.prog 217 [.agg (cT (.mk ⟨8,a,0,s,ks⟩ l))] [] (.v (.bool (bH (.mk ⟨8,a,0,s,ks⟩ l)))) []:=by
 have how:bH (.mk ⟨8,a,0,s,ks⟩ l)=(bh s&&(((l.length:Int)==2)&&be 2 0 l)):=by unfold bH own;rw [if_neg (by show ¬ (decide (a < 0)=true);rw [ha];decide)];rfl
 rw [how];refine da Tryz.func217 Tryz.ntmps217 ?_
 cases h0:bh s with
 | false =>
  refine ae ?_;have hc:=dS s hs;rw [h0] at hc;refine ab [] (hc) ?_;exact aq
 | true =>
  cases h1:((l.length:Int)==2) with
  | false =>
   have cv:((((aP l).length:Int)==2))=false:=by rw [<-aQ l] at h1;exact h1
   refine ae ?_;have hc:=dS s hs;rw [h0] at hc;refine ab [] (hc) ?_;exact aq
  | true =>
   have cv:((((aP l).length:Int)==2))=true:=by rw [<-aQ l] at h1;exact h1
   refine ae ?_;have hc:=dS s hs;rw [h0] at hc;refine ab [] (hc) ?_;have hc:=eQ (.mk ⟨8,a,0,s,ks⟩ l) 2 hl;refine ab [] (hc) ?_;refine bI ?_;exact ⟨by first | rfl | (rw [aQ];rfl),rfl⟩
theorem UH (a:Int) (s:ai) (ks:List Int) (l:List T) (hs:s.length<=1099511627776) (hl:l.length<=1099511627776) (ha:decide (a < 0)=false):GF Tryz.prog 217 [.agg (cT (.mk ⟨10,a,0,s,ks⟩ l))] [] (.v (.bool (bH (.mk ⟨10,a,0,s,ks⟩ l)))) []:=by
 have how:bH (.mk ⟨10,a,0,s,ks⟩ l)=((s==[])&&(((l.length:Int)==2)&&be 1 0 l)):=by unfold bH own;rw [if_neg (by show ¬ (decide (a < 0)=true);rw [ha];decide)];rfl
 rw [how];refine da Tryz.func217 Tryz.ntmps217 ?_
 cases h0:(s==[]) with
 | false =>
  exact aw
 | true =>
  cases h1:((l.length:Int)==2) with
  | false =>
   have cv:((((aP l).length:Int)==2))=false:=by rw [<-aQ l] at h1;exact h1
   exact aw
  | true =>
   have cv:((((aP l).length:Int)==2))=true:=by rw [<-aQ l] at h1;exact h1
   refine ae ?_;have hc:=eQ (.mk ⟨10,a,0,s,ks⟩ l) 1 hl;refine ab [] (hc) ?_;refine bI ?_;exact ⟨by first | rfl | (rw [aQ];rfl),rfl⟩
theorem UI (a:Int) (s:ai) (ks:List Int) (l:List T) (hs:s.length<=1099511627776) (hl:l.length<=1099511627776) (ha:decide (a < 0)=false):GF Tryz.prog 217 [.agg (cT (.mk ⟨11,a,0,s,ks⟩ l))] [] (.v (.bool (bH (.mk ⟨11,a,0,s,ks⟩ l)))) []:=by
 have how:bH (.mk ⟨11,a,0,s,ks⟩ l)=((s==[])&&(((l.length:Int)==1)&&be 1 0 l)):=by unfold bH own;rw [if_neg (by show ¬ (decide (a < 0)=true);rw [ha];decide)];rfl
 rw [how];refine da Tryz.func217 Tryz.ntmps217 ?_
 cases h0:(s==[]) with
 | false =>
  exact aw
 | true =>
  cases h1:((l.length:Int)==1) with
  | false =>
   have cv:((((aP l).length:Int)==1))=false:=by rw [<-aQ l] at h1;exact h1
   exact aw
  | true =>
   have cv:((((aP l).length:Int)==1))=true:=by rw [<-aQ l] at h1;exact h1
   refine ae ?_;have hc:=eQ (.mk ⟨11,a,0,s,ks⟩ l) 1 hl;refine ab [] (hc) ?_;refine bI ?_;exact ⟨by first | rfl | (rw [aQ];rfl),rfl⟩
theorem UJ (a:Int) (s:ai) (ks:List Int) (l:List T) (hs:s.length<=1099511627776) (hl:l.length<=1099511627776) (ha:decide (a < 0)=false):GF Tryz.prog 217 [.agg (cT (.mk ⟨12,a,0,s,ks⟩ l))] [] (.v (.bool (bH (.mk ⟨12,a,0,s,ks⟩ l)))) []:=by
 have how:bH (.mk ⟨12,a,0,s,ks⟩ l)=((s==[])&&(((l.length:Int)==1)&&be 1 0 l)):=by unfold bH own;rw [if_neg (by show ¬ (decide (a < 0)=true);rw [ha];decide)];rfl
 rw [how];refine da Tryz.func217 Tryz.ntmps217 ?_
 cases h0:(s==[]) with
 | false =>
  exact aw
 | true =>
  cases h1:((l.length:Int)==1) with
  | false =>
   have cv:((((aP l).length:Int)==1))=false:=by rw [<-aQ l] at h1;exact h1
   exact aw
  | true =>
   have cv:((((aP l).length:Int)==1))=true:=by rw [<-aQ l] at h1;exact h1
   refine ae ?_;have hc:=eQ (.mk ⟨12,a,0,s,ks⟩ l) 1 hl;refine ab [] (hc) ?_;refine bI ?_;exact ⟨by first | rfl | (rw [aQ];rfl),rfl⟩
theorem UK (a:Int) (s:ai) (ks:List Int) (l:List T) (hs:s.length<=1099511627776) (hl:l.length<=1099511627776) (ha:decide (a < 0)=false):GF Tryz.prog 217 [.agg (cT (.mk ⟨13,a,0,s,ks⟩ l))] [] (.v (.bool (bH (.mk ⟨13,a,0,s,ks⟩ l)))) []:=by
 have how:bH (.mk ⟨13,a,0,s,ks⟩ l)=(bh s&&(((l.length:Int)==1)&&be 1 0 l)):=by unfold bH own;rw [if_neg (by show ¬ (decide (a < 0)=true);rw [ha];decide)];rfl
 rw [how];refine da Tryz.func217 Tryz.ntmps217 ?_
 cases h0:bh s with
 | false =>
  refine ae ?_;have hc:=dS s hs;rw [h0] at hc;refine ab [] (hc) ?_;exact aq
 | true =>
  cases h1:((l.length:Int)==1) with
  | false =>
   have cv:((((aP l).length:Int)==1))=false:=by rw [<-aQ l] at h1;exact h1
   refine ae ?_;have hc:=dS s hs;rw [h0] at hc;refine ab [] (hc) ?_;exact aq
  | true =>
   have cv:((((aP l).length:Int)==1))=true:=by rw [<-aQ l] at h1;exact h1
   refine ae ?_;have hc:=dS s hs;rw [h0] at hc;refine ab [] (hc) ?_;have hc:=eQ (.mk ⟨13,a,0,s,ks⟩ l) 1 hl;refine ab [] (hc) ?_;refine bI ?_;exact ⟨by first | rfl | (rw [aQ];rfl),rfl⟩
end Go.Xg
namespace Go.Xg
open Go.RowKit Go.Xw Go.Proofs
open Go.Xp (Tok Nd T bd one levels Ar)
open Go.Sp
attribute [local irreducible] GW GL GO YG GC GA aW aZ
theorem Wd (a:Int) (s:ai) (ks:List Int) (l:List T) (hs:s.length<=1099511627776) (hl:l.length<=1099511627776) (ha:decide (a < 0)=false):GF Tryz.prog 217 [.agg (cT (.mk ⟨5,a,0,s,ks⟩ l))] [] (.v (.bool (bH (.mk ⟨5,a,0,s,ks⟩ l)))) []:=by
 have how:bH (.mk ⟨5,a,0,s,ks⟩ l)=((s==[45] || s==[33] || s==[126])&&(((l.length:Int)==1)&&be 1 0 l)):=by unfold bH own;rw [if_neg (by show ¬ (decide (a < 0)=true);rw [ha];decide)];rfl
 rw [how];refine da Tryz.func217 Tryz.ntmps217 ?_
 cases h1:(s==[45]) with
 | true =>
  cases h4:((l.length:Int)==1) with
  | false =>
   have LK:(((aP l).length:Int)==1)=false:=by rw [<-aQ l] at h4;exact h4
   exact aw
  | true =>
   have LK:(((aP l).length:Int)==1)=true:=by rw [<-aQ l] at h4;exact h4
   refine ae ?_;have hc:=eQ (.mk ⟨5,a,0,s,ks⟩ l) 1 hl;refine ab [] (hc) ?_;exact aq
 | false =>
  cases h2:(s==[33]) with
  | true =>
   cases h4:((l.length:Int)==1) with
   | false =>
    have LK:(((aP l).length:Int)==1)=false:=by rw [<-aQ l] at h4;exact h4
    exact aw
   | true =>
    have LK:(((aP l).length:Int)==1)=true:=by rw [<-aQ l] at h4;exact h4
    refine ae ?_;have hc:=eQ (.mk ⟨5,a,0,s,ks⟩ l) 1 hl;refine ab [] (hc) ?_;exact aq
  | false =>
   cases h3:(s==[126]) with
   | false =>
    exact aw
   | true =>
    cases h4:((l.length:Int)==1) with
    | false =>
     have LK:(((aP l).length:Int)==1)=false:=by rw [<-aQ l] at h4;exact h4
     exact aw
    | true =>
     have LK:(((aP l).length:Int)==1)=true:=by rw [<-aQ l] at h4;exact h4
     refine ae ?_;have hc:=eQ (.mk ⟨5,a,0,s,ks⟩ l) 1 hl;refine ab [] (hc) ?_;exact aq
theorem Wh (a:Int) (s:ai) (ks:List Int) (l:List T) (hs:s.length<=1099511627776) (hl:l.length<=1099511627776) (ha:decide (a < 0)=false):GF Tryz.prog 217 [.agg (cT (.mk ⟨9,a,0,s,ks⟩ l))] [] (.v (.bool (bH (.mk ⟨9,a,0,s,ks⟩ l)))) []:=by
 have how:bH (.mk ⟨9,a,0,s,ks⟩ l)=((s==[])&&((((l.length:Int)==2) || ((l.length:Int)==3))&&be 1 0 l)):=by unfold bH own;rw [if_neg (by show ¬ (decide (a < 0)=true);rw [ha];decide)];rfl
 rw [how];refine da Tryz.func217 Tryz.ntmps217 ?_
 cases h0:(s==[]) with
 | false =>
  exact aw
 | true =>
  cases h1:((l.length:Int)==2) with
  | true =>
   have cv:(((aP l).length:Int)==2)=true:=by rw [<-aQ l] at h1;exact h1
   refine ae ?_;have hc:=eQ (.mk ⟨9,a,0,s,ks⟩ l) 1 hl;refine ab [] (hc) ?_;exact aq
  | false =>
   have cv:(((aP l).length:Int)==2)=false:=by rw [<-aQ l] at h1;exact h1
   cases h2:((l.length:Int)==3) with
   | true =>
    have pK:(((aP l).length:Int)==3)=true:=by rw [<-aQ l] at h2;exact h2
    refine ae ?_;have hc:=eQ (.mk ⟨9,a,0,s,ks⟩ l) 1 hl;refine ab [] (hc) ?_;exact aq
   | false =>
    have pK:(((aP l).length:Int)==3)=false:=by rw [<-aQ l] at h2;exact h2
    exact aw
theorem UL (a:Int) (s:ai) (ks:List Int) (l:List T) (hs:s.length<=1099511627776) (hl:l.length<=1099511627776) (ha:decide (a < 0)=false):GF Tryz.prog 217 [.agg (cT (.mk ⟨14,a,0,s,ks⟩ l))] [] (.v (.bool (bH (.mk ⟨14,a,0,s,ks⟩ l)))) []:=by
 have how:bH (.mk ⟨14,a,0,s,ks⟩ l)=((l.all fun x=>fS x.n.kind)&&(s==[])):=by unfold bH own;rw [if_neg (by show ¬ (decide (a < 0)=true);rw [ha];decide)];rfl
 rw [how];refine aj Tryz.func217 Tryz.ntmps217 ?_;refine GW.range (aP l).length (fun k fr Γ=>∃ n,fr=[.U,.loc 0 0,.U,.loc 1 0,.U,.U,.U,.U,.U,.U,.U,.U,.U,.U,.U,.U,.U,.U,.U,.U,.U,.U,.U,.U,.U,.U,.U,.U,.U,.U,.U,.U,.U,.U,.U,.U,.U,.U,.U,.U,.U,.U,.U,.U,.U,.U,.U,.U,.U,.U,.U,.U,.U,.U,.U,.U,.U,.U,.U,.U,.U,.U,.U,.U,.U,.U,.U,.U,.U,.U,.U,.U,.U,.U,.U,.U,.U,.U,.U,.U,.U,.U,.U,.U,.U,.U,.U,.U,.U,.U,.U,.U,.U,.U,.U,.U,.U,.U,.U,.U,.U,.U,.U,.U,.U,.U,.U,.U,.U,.U,.U,.U,.U,.U,.U,.U,.U,.U,.U,.U,.U,.U,.U,.U,.U,.U,.U,.U,.U,.U,.U,.U,.U,.U,.U,.U,.U,.U,.U,.U,.U,.U,.U,.U,.U,.U,.U,.U,.U,.U,.U,.U,.U,.U,.U,.U,.U,.U,.U,.U,.U,.U,.U,.U,.U,.U,.U,.U,.U,.U,.U,.U,.U,.U,.U,.U,.sl 6 (aP l),.v (ii ((aP l).length:Int)),.v (ii (k:Nat)),.U,.U,.U,.U,.U,.U,.U,.U,.U,.U,.U,.U]/\Γ=[.box 94 (cT (.mk ⟨14,a,0,s,ks⟩ l)),.box 91 n]/\n=ay ⟨14,a,0,s,ks⟩/\((l.take k).all fun x=>fS x.n.kind)=true) ?_ (by rw [aQ];exact hl) ?_ ?_ ?_
 ·exact ⟨_,_,Wk.ax ao,_,rfl,rfl,rfl,rfl⟩
 ·rintro k _ _ ⟨_,rfl,rfl,_⟩;exact ⟨rfl,rfl,rfl⟩
 ·rintro k _ _ hk ⟨_,rfl,rfl,rfl,hf⟩
  have hk:k < l.length:=by rw [aQ] at hk;exact hk
  have hx:l[k]?=some l[k]:=by simp [hk]
  have hr:=cL hx;generalize l[k]=x at *;have he:=Gx x.n.kind
  cases hb:fS x.n.kind with
  | true =>
   rw [hb] at he;refine ae ?_;refine ab [] (he) ?_;exact ⟨rfl,rfl,_,_,(Wk.cut (n:=2) (Nat.le_of_ble_eq_true rfl) rfl).trans (Wk.ax ao),_,rfl,rfl,rfl,by rw [take_add_one,hx,all_append,hf];simp only [Option.toList,all_cons,all_nil,hb];rfl⟩
  | false =>
   rw [hb] at he;refine ae ?_;refine ab [] (he) ?_;refine bI ?_
   have ha:(l.all fun x=>fS x.n.kind)=false:=by
    rw [all_eq_false];exact ⟨x,mem_of_getElem? hx,by simp [hb]⟩
   rw [ha];exact ⟨rfl,rfl⟩
 ·rintro _ _ ⟨_,rfl,rfl,rfl,hf⟩
  have hf:(l.all fun x=>fS x.n.kind)=true:=by
   rw [take_of_length_le (by rw [aQ];omega)] at hf;exact hf
  rw [hf];exact aw
theorem Wm (k a n:Int) (s:ai) (ks:List Int) (l:List T) (hk:k=1\/k=2\/k=3\/k=4\/k=5\/k=6\/k=7\/k=8\/k=9\/k=10\/k=11\/k=12\/k=13\/k=14\/True) (hx:¬ (k=1\/k=2\/k=3\/k=4\/k=5\/k=6\/k=7\/k=8\/k=9\/k=10\/k=11\/k=12\/k=13\/k=14)) (ha:decide (a < 0)=false) (hn:(n != 0)=false):GF Tryz.prog 217 [.agg (cT (.mk ⟨k,a,n,s,ks⟩ l))] [] (.v (.bool (bH (.mk ⟨k,a,n,s,ks⟩ l)))) []:=by
 simp only [not_or] at hx;obtain ⟨h1,h2,h3,h4,h5,h6,h7,h8,h9,kF,nW,nB,eB,z8⟩:=hx
 have h1:(k==1)=false:=by simpa using h1
 have h1x:(k != 1)=true:=by simp only [bne,h1];rfl
 have h2:(k==2)=false:=by simpa using h2
 have h3:(k==3)=false:=by simpa using h3
 have h4:(k==4)=false:=by simpa using h4
 have h5:(k==5)=false:=by simpa using h5
 have h6:(k==6)=false:=by simpa using h6
 have h7:(k==7)=false:=by simpa using h7
 have h8:(k==8)=false:=by simpa using h8
 have h9:(k==9)=false:=by simpa using h9
 have kF:(k==10)=false:=by simpa using kF
 have nW:(k==11)=false:=by simpa using nW
 have nB:(k==12)=false:=by simpa using nB
 have eB:(k==13)=false:=by simpa using eB
 have z8:(k==14)=false:=by simpa using z8
 have how:bH (.mk ⟨k,a,n,s,ks⟩ l)=false:=by
  show own ⟨k,a,n,s,ks⟩ _ _ _=_;simp [own,h1,h2,h3,h4,h5,h6,h7,h8,h9,kF,nW,nB,eB,z8]
 rw [how];refine aj Tryz.func217 Tryz.ntmps217 ?_;exact aq
theorem Wi (k a n:Int) (s:ai) (ks:List Int) (l:List T) (ha:decide (a < 0)=true):GF Tryz.prog 217 [.agg (cT (.mk ⟨k,a,n,s,ks⟩ l))] [] (.v (.bool (bH (.mk ⟨k,a,n,s,ks⟩ l)))) []:=by
 have how:bH (.mk ⟨k,a,n,s,ks⟩ l)=false:=by
  show own ⟨k,a,n,s,ks⟩ _ _ _=_;unfold own;rw [if_pos ha]
 rw [how];refine aj Tryz.func217 Tryz.ntmps217 ?_;exact aq
theorem Wl (k a n:Int) (s:ai) (ks:List Int) (l:List T) (ha:decide (a < 0)=false) (hk:(k != 1)=true) (hn:(n != 0)=true):GF Tryz.prog 217 [.agg (cT (.mk ⟨k,a,n,s,ks⟩ l))] [] (.v (.bool (bH (.mk ⟨k,a,n,s,ks⟩ l)))) []:=by
 have how:bH (.mk ⟨k,a,n,s,ks⟩ l)=false:=by
  show own ⟨k,a,n,s,ks⟩ _ _ _=_;unfold own;rw [if_neg (by show ¬ (decide (a < 0)=true);rw [ha];decide),if_pos (by show ((k != 1)&&(n != 0))=true;rw [hk,hn];rfl)]
 rw [how];refine aj Tryz.func217 Tryz.ntmps217 ?_;exact aq
theorem O6 (t:T) (hs:t.n.s.length<=1099511627776) (hl:t.kids.length<=1099511627776):GF Tryz.prog 217 [.agg (cT t)] [] (.v (.bool (bH t))) []:=by
 obtain ⟨⟨k,a,n,s,ks⟩,l⟩:=t
 cases ha:decide (a < 0) with
 | true=>exact Wi k a n s ks l ha
 | false =>
 by_cases td:k=1
 ·subst td;exact V9 a n s ks l hs hl ha
 by_cases hn:n=0
 ·subst hn
  by_cases h:k=1\/k=2\/k=3\/k=4\/k=5\/k=6\/k=7\/k=8\/k=9\/k=10\/k=11\/k=12\/k=13\/k=14
  ·rcases h with rfl | rfl | rfl | rfl | rfl | rfl | rfl | rfl | rfl | rfl | rfl | rfl | rfl | rfl
   ·exact absurd rfl td
   ·exact Wa a s ks l hs hl ha
   ·exact Wb a s ks l hs hl ha
   ·exact Wc a s ks l hs hl ha
   ·exact Wd a s ks l hs hl ha
   ·exact We a s ks l hs hl ha
   ·exact Wf a s ks l hs hl ha
   ·exact Wg a s ks l hs hl ha
   ·exact Wh a s ks l hs hl ha
   ·exact UH a s ks l hs hl ha
   ·exact UI a s ks l hs hl ha
   ·exact UJ a s ks l hs hl ha
   ·exact UK a s ks l hs hl ha
   ·exact UL a s ks l hs hl ha
  ·exact Wm k a 0 s ks l (by simp) h ha rfl
 ·exact Wl k a n s ks l ha (by simpa using td) (by simpa using hn)
end Go.Xg
namespace Go.Xg
open Go.RowKit Go.Xw Go.Proofs
open Go.Xp (Tok Nd T bd one levels Ar)
open Go.Sp
attribute [local irreducible] GW GL GO YG GC GA aW aZ
theorem KG (l:List T):bP l=l.all cU:=by
 induction l with
 | nil=>simp [bP]
 | cons a l ih=>simp [bP,ih]
theorem O5:∀ (sz:Nat) (t:T),SizeOf.sizeOf t<=sz->FI t->GF Tryz.prog 189 [.agg (cT t)] [] (.v (.bool (cU t))) []:=by
 intro sz
 induction sz with
 | zero=>intro t h _;cases t;simp at h
 | succ sz ih =>
 intro t cK iD;obtain ⟨n,l⟩:=t;have aaD:=iD;rw [FI] at iD;obtain ⟨hs,hl,hm⟩:=iD
 have how:cU (.mk n l)=(bP l&&bH (.mk n l)):=by rw [cU]
 rw [how];rw [KG];refine aj Tryz.func189 Tryz.ntmps189 ?_;refine GW.range (aP l).length (fun k fr Γ=>fr=[.U,.loc 0 0,.U,.U,.U,.U,.sl 6 (aP l),.v (ii ((aP l).length:Int)),.v (ii (k:Nat)),.U,.U,.U,.U,.U,.U,.U,.U,.U]/\Γ=[.box 94 (cT (.mk n l))]/\((l.take k).all cU)=true) ?_ (by rw [aQ];exact hl) ?_ ?_ ?_
 ·exact ⟨_,_,Wk.ax ao,rfl,rfl,rfl⟩
 ·rintro k _ _ ⟨rfl,rfl,_⟩;exact ⟨rfl,rfl,rfl⟩
 ·rintro k _ _ hk ⟨rfl,rfl,hf⟩
  have hk:k < l.length:=by rw [aQ] at hk;exact hk
  have hx:l[k]?=some l[k]:=by simp [hk]
  have BD:=mem_of_getElem? hx;have ar:=List.sizeOf_lt_of_mem BD;have hr:=cL hx;have he:=ih l[k] (by simp at cK;omega) (FK hm BD);generalize l[k]=x at *
  cases hb:cU x with
  | true =>
   rw [hb] at he;refine ae ?_;refine ab [] (he) ?_;exact ⟨rfl,rfl,_,_,(Wk.cut (n:=1) (Nat.le_of_ble_eq_true rfl) rfl).trans (Wk.ax ao),rfl,rfl,by rw [take_add_one,hx,all_append,hf];simp only [Option.toList,all_cons,all_nil,hb];rfl⟩
  | false =>
   rw [hb] at he;refine ae ?_;refine ab [] (he) ?_;refine bI ?_
   have ha:(l.all cU)=false:=by
    rw [all_eq_false];exact ⟨x,mem_of_getElem? hx,by simp [hb]⟩
   rw [ha];exact ⟨rfl,rfl⟩
 ·rintro _ _ ⟨rfl,rfl,hf⟩
  have hf:(l.all cU)=true:=by
   rw [take_of_length_le (by rw [aQ];omega)] at hf;exact hf
  rw [hf];refine ae ?_;refine ab [] (O6 (.mk n l) hs hl) ?_;exact aq
theorem O4 (t:T) (h:FI t):GF Tryz.prog 189 [.agg (cT t)] [] (.v (.bool (cU t))) []:=O5 _ t (Nat.le_refl _) h
end Go.Xg
namespace Go.Xg
open Go.RowKit Go.Xw Go.Proofs
open Go.Xp (Tok Nd T bd one levels Ar)
open Go.Sp
attribute [local irreducible] GW GL GO YG GC GA aW aZ
structure AW (p:Src):Prop where
 globals:p.globals.length<=1000000000000/\∀ s∈p.globals,s.length<=1000000000000
 arrays:p.arrays.length<=1000000000000/\∀ a∈p.arrays,a.name.length<=1000000000000
 fns:p.fns.length<=1000000000000/\∀ f∈p.fns,f.name.length<=1000000000000/\f.params.length<=1000000000000/\∀ s∈f.params,s.length<=1000000000000
 nodes:p.nodes.length<=1000000000000/\∀ n∈p.nodes,n.s.length<=1000000000000/\n.kids.length<=1000000000000
theorem Ir {l:List ai} {i:Nat} {s:ai} (h:l[i]?=some s):(l.map fun s=>[GV.v (sv s)])[i]?=some [.v (sv s)]:=by rw [getElem?_map,h];rfl
theorem Fx {l:List Ar} {i:Nat} {s:Ar} (h:l[i]?=some s):(l.map aB)[i]?=some (aB s):=by rw [getElem?_map,h];rfl
theorem AO {l:List Go.Sp.Fn} {i:Nat} {s:Go.Sp.Fn} (h:l[i]?=some s):(l.map au)[i]?=some (au s):=by rw [getElem?_map,h];rfl
theorem ua {α:Type} {l:List α} {q:α->Bool} {k:Nat} {x:α} (hx:l[k]?=some x) (hb:q x=false):l.all q=false:=by
 rw [all_eq_false];exact ⟨x,mem_of_getElem? hx,by simp [hb]⟩
theorem AB (p:Src) (hp:AW p) (b:Bool) (h:nw p=some b):GF Tryz.prog 151 [.agg (av p)] [] (.v (.bool b)) []:=by
 unfold nw at h;refine aj Tryz.func151 Tryz.ntmps151 ?_;refine GW.range (p.globals.map fun s=>[GV.v (sv s)]).length (fun k fr Γ=>fr=[.U,.loc 0 0,.U,.v (ii 0),.U,.U,.U,.U,.U,.U,.U,.U,.U,.U,.U,strs p.globals,.v (ii ((p.globals.map fun s=>[GV.v (sv s)]).length:Int)),.v (ii (k:Nat)),.U,.U,.U,.U,.U,.U,.U,.U,.U,.U,.U,.U,.U,.U,.U,.U,.U,.U,.U,.U,.U,.U,.U,.U,.U,.U,.U,.U,.U,.U,.U,.U,.U,.U,.U,.U,.U,.U,.U,.U,.U,.U,.U,.U,.U,.U,.U,.U,.U,.U,.U,.U,.U,.U,.U,.U,.U,.U,.U,.U,.U,.U,.U,.U,.U,.U,.U,.U,.U,.U,.U,.U,.U,.U,.U,.U,.U,.U,.U,.U,.U,.U,.U,.U,.U,.U,.U]/\Γ=[.box 34 (av p)]/\((p.globals.take k).all bh)=true) ?_ (by simpa using by have:=hp.globals.1;omega) ?_ ?_ ?_
 ·exact ⟨_,_,Wk.ax ao,rfl,rfl,rfl⟩
 ·rintro k _ _ ⟨rfl,rfl,_⟩;exact ⟨rfl,rfl,rfl⟩
 ·rintro k _ _ hk ⟨rfl,rfl,hf⟩
  have hk:k < p.globals.length:=by simpa using hk
  have hx:p.globals[k]?=some p.globals[k]:=by simp [hk]
  have hr:=Ir hx;have hl:=hp.globals.2 _ (mem_of_getElem? hx);generalize p.globals[k]=x at *;have he:=dS x ah
  cases hb:bh x with
  | true =>
   rw [hb] at he;refine ae ?_;refine ab [] (he) ?_;exact ⟨rfl,rfl,_,_,Wk.ax ao,rfl,rfl,rU hx hf hb⟩
  | false =>
   rw [hb] at he;rw [if_pos (show ca p.globals=false from ua hx hb)] at h;cases h;refine ae ?_;refine ab [] (he) ?_;exact aq
 ·rintro _ _ ⟨rfl,rfl,hf⟩;rw [take_of_length_le (by simp)] at hf;rw [if_neg (by rw [show ca p.globals=true from hf];decide)] at h;refine ae ?_;refine GW.range (p.arrays.map aB).length (fun k fr Γ=>fr=[.U,.loc 0 0,.U,.v (ii 0),.U,.U,.U,.U,.U,.U,.U,.U,.U,.U,.U,.U,.U,.U,.U,.U,.U,.U,.U,.U,.U,.U,.sl 2 (p.arrays.map aB),.v (ii ((p.arrays.map aB).length:Int)),.v (ii (k:Nat)),.U,.U,.U,.U,.U,.U,.U,.U,.U,.U,.U,.U,.U,.U,.U,.U,.U,.U,.U,.U,.U,.U,.U,.U,.U,.U,.U,.U,.U,.U,.U,.U,.U,.U,.U,.U,.U,.U,.U,.U,.U,.U,.U,.U,.U,.U,.U,.U,.U,.U,.U,.U,.U,.U,.U,.U,.U,.U,.U,.U,.U,.U,.U,.U,.U,.U,.U,.U,.U,.U,.U,.U,.U,.U,.U,.U]/\Γ=[.box 34 (av p)]/\((p.arrays.take k).all nH)=true) ?_ (by simpa using by have:=hp.arrays.1;omega) ?_ ?_ ?_
  ·exact ⟨_,_,Wk.ax ao,rfl,rfl,rfl⟩
  ·rintro k _ _ ⟨rfl,rfl,_⟩;exact ⟨rfl,rfl,rfl⟩
  ·rintro k _ _ hk ⟨rfl,rfl,hf⟩
   have hk:k < p.arrays.length:=by simpa using hk
   have hx:p.arrays[k]?=some p.arrays[k]:=by simp [hk]
   have hr:=Fx hx;have hl:=hp.arrays.2 _ (mem_of_getElem? hx);generalize p.arrays[k]=x at *;have he:=dS x.name ah
   cases hb:bh x.name with
   | false =>
    rw [hb] at he;rw [if_pos (ua hx (by simp [nH,hb]))] at h;cases h;refine ae ?_;refine ab [] (he) ?_;exact aq
   | true =>
    rw [hb] at he
    cases h1:decide (x.size < 0) with
    | true =>
     rw [if_pos (ua hx (by simp only [nH,hb,h1];rfl))] at h;cases h;refine ae ?_;refine ab [] (he) ?_;exact aq
    | false =>
     cases h2:decide (2147483647 < x.size) with
     | true =>
      rw [if_pos (ua hx (by simp only [nH,hb,h1,h2];rfl))] at h;cases h;refine ae ?_;refine ab [] (he) ?_;exact aq
     | false =>
      refine ae ?_;refine ab [] (he) ?_;exact ⟨rfl,rfl,_,_,(Wk.cut (n:=1) (Nat.le_of_ble_eq_true rfl) rfl).trans (Wk.ax ao),rfl,rfl,rU hx hf (by simp only [nH,hb,h1,h2];rfl)⟩
  ·rintro _ _ ⟨rfl,rfl,hf⟩;rw [take_of_length_le (by simp)] at hf;rw [if_neg (by rw [hf];decide)] at h;refine ae ?_;refine GW.range (p.fns.map au).length (fun k fr Γ=>∃ nx,fr=[.U,.loc 0 0,.U,.v (ii nx),.U,.U,.U,.U,.U,.U,.U,.U,.U,.U,.U,.U,.U,.U,.U,.U,.U,.U,.U,.U,.U,.U,.U,.U,.U,.U,.U,.U,.U,.U,.U,.U,.U,.U,.U,.U,.U,.U,.U,.U,.U,.U,.U,.U,.sl 3 (p.fns.map au),.v (ii ((p.fns.map au).length:Int)),.v (ii (k:Nat)),.U,.U,.U,.U,.U,.U,.U,.U,.U,.U,.U,.U,.U,.U,.U,.U,.U,.U,.U,.U,.U,.U,.U,.U,.U,.U,.U,.U,.U,.U,.U,.U,.U,.U,.U,.U,.U,.U,.U,.U,.U,.U,.U,.U,.U,.U,.U,.U,.U,.U,.U,.U,.U,.U]/\Γ=[.box 34 (av p)]/\0<=nx/\(match fJ p.nodes (p.fns.drop k) nx with | none=>none | some none=>some false | some (some next)=>some (next==(p.nodes.length:Int)&&decide (next<=800)))=some b) ?_ (by simpa using by have:=hp.fns.1;omega) ?_ ?_ ?_
   ·exact ⟨_,_,Wk.ax ao,_,rfl,rfl,Int.le_refl _,h⟩
   ·rintro k _ _ ⟨_,rfl,rfl,_⟩;exact ⟨rfl,rfl,rfl⟩
   ·clear h hf;rintro k _ _ hk ⟨nx,rfl,rfl,jW,h⟩
    have hk:k < p.fns.length:=by simpa using hk
    have hx:p.fns[k]?=some p.fns[k]:=by simp [hk]
    have hr:=AO hx;have hl:=hp.fns.2 _ (mem_of_getElem? hx);rw [drop_eq_getElem_cons hk,fJ] at h;generalize p.fns[k]=x at *
    cases he:nJ p.nodes (fN p.nodes) nx.toNat 0 with
    | none=>rw [he] at h;cases h
    | some e =>
    rw [he] at h;simp only at h;have ot:=Vw p hp.nodes.1 (fun n hn=>(hp.nodes.2 n hn).2) _ _ 0 _ ah he;rw [Int.toNat_of_nonneg jW] at ot;have bT:=dS x.name ah
    by_cases h1:x.body=nx
    ·have cv:(x.body != nx)=false:=by simpa using h1
     cases hb:bh x.name with
     | false =>
      rw [hb] at bT;rw [if_pos (.inr (.inl hb))] at h;cases h;refine ae ?_;refine ab [] (ot) ?_;refine ab [] (bT) ?_;exact aq
     | true =>
      rw [hb] at bT
      by_cases h2:e < 0
      ·have pK:decide (e < 0)=true:=by simpa using h2
       rw [if_pos (.inr (.inr h2))] at h;cases h;refine ae ?_;refine ab [] (ot) ?_;refine ab [] (bT) ?_;exact aq
      ·have pK:decide (e < 0)=false:=by simpa using h2
       rw [if_neg (by rw [hb];simp [h1,h2])] at h;refine ae ?_;refine ab [] (ot) ?_;refine ab [] (bT) ?_;refine GW.range (x.params.map fun s=>[GV.v (sv s)]).length (fun j fr Γ=>fr=[.U,.loc 0 0,.U,.v (ii nx),.U,.U,.U,.U,.U,.loc 1 0,.v (ii e),.U,.U,.U,.U,.U,.U,.U,.U,.U,.U,.U,.U,.U,.U,.U,.U,.U,.U,.U,.U,.U,.U,.U,.U,.U,.U,.U,.U,.U,.U,.U,.U,.U,.U,.U,.U,.U,.sl 3 (p.fns.map au),.v (ii ((p.fns.map au).length:Int)),.v (ii (k:Nat)),.U,.U,.U,.U,.U,.U,.U,.U,.U,.U,.U,.U,.U,.U,.U,.U,.U,.U,.U,.U,.U,strs x.params,.v (ii ((x.params.map fun s=>[GV.v (sv s)]).length:Int)),.v (ii (j:Nat)),.U,.U,.U,.U,.U,.U,.U,.U,.U,.U,.U,.U,.U,.U,.U,.U,.U,.U,.U,.U,.U,.U,.U,.U,.U,.U,.U,.U,.U,.U]/\Γ=[.box 34 (av p),.box 60 (au x)]/\((x.params.take j).all bh)=true) ?_ (by simpa using by omega) ?_ ?_ ?_
       ·exact ⟨_,_,Wk.ax ao,rfl,rfl,rfl⟩
       ·rintro k _ _ ⟨rfl,rfl,_⟩;exact ⟨rfl,rfl,rfl⟩
       ·rintro j _ _ hj ⟨rfl,rfl,hf⟩
        have hj:j < x.params.length:=by simpa using hj
        have oL:x.params[j]?=some x.params[j]:=by simp [hj]
        have QF:=Ir oL;have lP:=hl.2.2 _ (mem_of_getElem? oL);generalize x.params[j]=y at *;have bJ:=dS y ah
        cases hb:bh y with
        | true =>
         rw [hb] at bJ;refine ae ?_;refine ab [] (bJ) ?_;exact ⟨rfl,rfl,_,_,Wk.ax ao,rfl,rfl,rU oL hf hb⟩
        | false =>
         rw [hb] at bJ;rw [if_pos (show ca x.params=false from ua oL hb)] at h;cases h;refine ae ?_;refine ab [] (bJ) ?_;exact aq
       ·rintro _ _ ⟨rfl,rfl,hf⟩;rw [take_of_length_le (by simp)] at hf;rw [if_neg (by rw [show ca x.params=true from hf];decide)] at h
        cases hs:sub p.nodes (fN p.nodes) nx.toNat with
        | none=>rw [hs] at h;cases h
        | some t =>
        rw [hs] at h;simp only at h;have pe:=DC p (fun n hn=>(hp.nodes.2 n hn).2) _ _ _ hs;rw [Int.toNat_of_nonneg jW] at pe;have aR:=O4 t ((U4 (fun n hn=>by have:=hp.nodes.2 n hn;omega) _).1 _ _ hs)
        by_cases h3:t.n.kind=14
        ·have jC:(t.n.kind != 14)=false:=by simpa using h3
         cases hb:cU t with
         | false =>
          rw [hb] at aR;rw [if_pos (.inr hb)] at h;cases h;refine ae ?_;refine ab [] (pe) ?_;refine ab [] (aR) ?_;exact aq
         | true =>
          rw [hb] at aR;rw [if_neg (by rw [hb];simp [h3])] at h;refine ae ?_;refine ab [] (pe) ?_;refine ab [] (aR) ?_;exact ⟨rfl,rfl,_,_,(Wk.cut (n:=1) (Nat.le_of_ble_eq_true rfl) rfl).trans (Wk.ax ao),_,rfl,rfl,by omega,h⟩
        ·have jC:(t.n.kind != 14)=true:=by simpa using h3
         rw [if_pos (.inl h3)] at h;cases h;refine ae ?_;refine ab [] (pe) ?_;exact aq
    ·have cv:(x.body != nx)=true:=by simpa using h1
     rw [if_pos (.inl h1)] at h;cases h;refine ae ?_;refine ab [] (ot) ?_;exact aq
   ·clear h hf;rintro _ _ ⟨nx,rfl,rfl,jW,h⟩;rw [length_map,List.drop_length,fJ] at h;simp only at h;cases h
    cases h1:(nx==(p.nodes.length:Int)) with
    | false =>
     have cv:(nx==((p.nodes.map ay).length:Int))=false:=by rw [length_map];exact h1
     exact aw
    | true =>
     have cv:(nx==((p.nodes.map ay).length:Int))=true:=by rw [length_map];exact h1
     exact aw
end Go.Xg
namespace Go.Xg
open Go.RowKit Go.Xw Go.Proofs
open Go.Xp (Tok Nd T bd one levels Ar)
open Go.Sp
attribute [local irreducible] GW GL GO YG GC GA aW aZ
def l8 (k:Int) (s:ai):Int:=if k=6 then (match levels.findIdx? (fun l=>l.contains s) with | some i=>(i:Int) | none => -1) else 9
theorem JB (t:T):GF Tryz.prog 277 [.agg (cT t)] [] (.v (.int .i64 (l8 t.n.kind t.n.s))) []:=by
 refine da Tryz.func277 Tryz.ntmps277 ?_
 by_cases h6:t.n.kind=6
 ·have YV:(t.n.kind != 6)=false:=by simpa using h6
  unfold l8;rw [if_pos h6];refine ae ?_;refine ab [] (jc) ?_;refine GW.range (levels.map fun l=>[strs l]).length (fun k fr Γ=>fr=[.U,.loc 0 0,.U,.U,.U,.U,.U,.U,.U,.U,.U,.sl 1 (levels.map fun l=>[strs l]),.v (ii ((levels.map fun l=>[strs l]).length:Int)),.v (ii (k:Nat)),.U,.U,.U,.U,.U,.U,.U,.U,.U,.U,.U]/\Γ=[.box 94 (cT t)]/\((levels.take k).any fun l=>l.contains t.n.s)=false) ?_ (by decide) ?_ ?_ ?_
  ·exact ⟨_,_,Wk.ax ao,rfl,rfl,rfl⟩
  ·rintro k _ _ ⟨rfl,rfl,_⟩;exact ⟨rfl,rfl,rfl⟩
  ·rintro k _ _ hk ⟨rfl,rfl,hf⟩
   have hk:k < levels.length:=by simpa using hk
   have hx:levels[k]?=some levels[k]:=by simp [hk]
   have hr:(levels.map fun l=>[strs l])[k]?=some [strs levels[k]]:=by simp [hk]
   have yJ:levels[k].length<=1099511627776:=by
    have:∀ l∈levels,l.length<=1099511627776:=by decide
    exact this _ (getElem_mem hk)
   have yC:levels[k].contains t.n.s=true->levels.findIdx? (fun l=>l.contains t.n.s)=some k:=by
    intro hc;rw [List.findIdx?_eq_some_iff_getElem];refine ⟨hk,hc,fun j hj=>?_⟩;rw [List.any_eq_false] at hf;refine hf _ ?_;rw [List.mem_take_iff_getElem];exact ⟨j,by omega,rfl⟩
   generalize levels[k]=x at *;have hh:=iP x t.n.s yJ
   cases hb:x.contains t.n.s with
   | true =>
    rw [hb] at hh;rw [yC hb];refine ae ?_;refine ab [] (hh) ?_;exact aq
   | false =>
    rw [hb] at hh;refine ae ?_;refine ab [] (hh) ?_;exact ⟨rfl,rfl,_,_,Wk.ax ao,rfl,rfl,by rw [take_add_one,hx,List.any_append,hf];simp only [Option.toList,List.any_cons,List.any_nil,hb];rfl⟩
  ·rintro _ _ ⟨rfl,rfl,hf⟩;rw [take_of_length_le (by simp)] at hf
   have hn:levels.findIdx? (fun l=>l.contains t.n.s)=none:=by
    rw [List.findIdx?_eq_none_iff];intro x hx;rw [List.any_eq_false] at hf;simpa using hf x hx
   rw [hn];exact aw
 ·have YV:(t.n.kind != 6)=true:=by simpa using h6
  unfold l8;rw [if_neg h6];refine ae ?_;refine ab [] (jc) ?_;exact aq
end Go.Xg
namespace Go.Xg
open Go.RowKit Go.Xw Go.Proofs
open Go.Xp (Tok Nd T bd one levels Ar yg cm oq)
open Go.Sp
attribute [local irreducible] GW GL GO YG GC GA aW aZ
theorem Rc (n:Int):GF Tryz.prog 300 [.v (ii n)] [] (.v (ii (n % 4294967296))) []:=by
 refine aj Tryz.func300 Tryz.ntmps300 ?_;exact aq
theorem SK (n:Int):GF Tryz.prog 292 [.v (ii n)] [] (.v (ii (yg n))) []:=by
 unfold yg
 have hb:0<=n % 4294967296/\n % 4294967296 < 4294967296:=by omega
 have hp:=Rc n;generalize n % 4294967296=m at *;refine da Tryz.func292 Tryz.ntmps292 ?_
 by_cases h:m > 2147483647
 ·have h':decide ((2147483647:Int) < m)=true:=by simpa using h
  rw [if_pos h];refine ae ?_;refine ab [] (hp) ?_;exact aq
 ·have h':decide ((2147483647:Int) < m)=false:=by simpa using h
  rw [if_neg h];refine ae ?_;refine ab [] (hp) ?_;exact aq
theorem xr (k:Nat) (h:k<=57):[[GV.v (.int .u8 (k:Int))]]=[UInt8.ofNat k].map fun c=>[GV.v (.int .u8 (c.toNat:Int))]:=by
 have:(UInt8.ofNat k).toNat=k:=by simp;omega
 simp [this]
theorem Gu (n:Nat) (hn:n<=1099511627776):GF Tryz.prog 293 [.v (ii (n:Int))] [] (.v (sv (cm n))) []:=by
 induction n using Nat.strongRecOn with
 | _ n ih =>
 unfold cm;refine da Tryz.func293 Tryz.ntmps293 ?_
 by_cases h:n < 10
 ·have h':decide ((n:Int) < 10)=true:=by simpa using by omega
  have hw:=xr (48+n) ah;rw [Int.natCast_add] at hw;rw [dif_pos h];refine ae ?_;refine bE ?_;exact aw
 ·have h':decide ((n:Int) < 10)=false:=by simpa using by omega
  rw [dif_neg h];have hc:=ih (n / 10) ah ah;have hl:=oq (n / 10);have hw:=xr (48+n % 10) ah;rw [Int.natCast_add] at hw;refine ae ?_;refine aE (aH [0,1,3,4,5,6] (.f 2 (.a 7 (.q 8 (.q 9 (.q 10 .nil)))) 7 (.q 8 (.a 2 (.q 9 (.q 10 .nil)))))) ?_;refine ak ?_;refine GO.fork ?_ ?_
  ·refine aC [] (hc) ?_;refine eE ?_;refine ak ?_;exact aw
  ·refine eE ?_;refine ak ?_;refine aC [] (hc) ?_;exact aw
end Go.Xg
namespace Go.Xg
open Go.RowKit Go.Xw Go.Proofs
open Go.Xp (Tok Nd T bd one levels Ar yg cm oq E S er aL wt ey pH dF bx)
open Go.Sp
attribute [local irreducible] GW GL GO YG GC GA aW aZ
theorem dU {nd:Nd} {l l':List T} {k v:Int} {s:ai} (h:er (.mk nd l)=.mk ⟨k,0,v,s,[]⟩ l'):nd.kind=k/\nd.n=v/\nd.s=s/\aL l=l':=by
 rw [er] at h
 injection h with h1 h2
 injection h1 with a b c d e
 exact ⟨a,c,d,h2⟩
theorem vi {l:List T} {x:T} (h:aL l=[x]):∃ t,l=[t]/\er t=x:=by
 match l,h with
 | [t],h=>rw [aL,aL] at h;injection h with h1;exact ⟨t,rfl,h1⟩
 | [],h=>rw [aL] at h;cases h
 | t::u::r,h=>rw [aL,aL] at h;injection h with h1 h2;cases h2
theorem Bo {l:List T} {x y:T} (h:aL l=[x,y]):∃ t u,l=[t,u]/\er t=x/\er u=y:=by
 match l,h with
 | t::r,h =>
  rw [aL] at h;injection h with h1 h2
  obtain ⟨u,rfl,h3⟩:=vi h2;exact ⟨t,u,rfl,h1,h3⟩
 | [],h=>rw [aL] at h;cases h
theorem Xm {l:List T} {x y z:T} (h:aL l=[x,y,z]):∃ t u w,l=[t,u,w]/\er t=x/\er u=y/\er w=z:=by
 match l,h with
 | t::r,h =>
  rw [aL] at h;injection h with h1 h2
  obtain ⟨u,w,rfl,h3,h4⟩:=Bo h2;exact ⟨t,u,w,rfl,h1,h3,h4⟩
 | [],h=>rw [aL] at h;cases h
theorem PL {a:E} (h:a.ok=true) {t:T} (ht:er t=a.tree):l8 t.n.kind t.n.s=(a.lv:Int):=by
 obtain ⟨nd,l⟩:=t
 cases a with
 | bin s a b =>
  obtain ⟨h1,_,h2,_⟩:=dU ht;simp only [E.ok,Bool.and_eq_true] at h;have h9:=(Go.Xp.oM h.1.1).1;simp only [T.n,h1,h2,l8,if_pos,E.lv];unfold dF at h9 |-
  cases hf:levels.findIdx? (fun l=>l.contains s) with
  | none=>rw [hf] at h9;exact absurd h9 (by decide)
  | some i=>rfl
 | num n=>obtain ⟨h1,_⟩:=dU ht;simp only [T.n,h1,l8];rfl
 | name n=>obtain ⟨h1,_⟩:=dU ht;simp only [T.n,h1,l8];rfl
 | at_ s a=>obtain ⟨h1,_⟩:=dU ht;simp only [T.n,h1,l8];rfl
 | call s a=>obtain ⟨h1,_⟩:=dU ht;simp only [T.n,h1,l8];rfl
 | un s a=>obtain ⟨h1,_⟩:=dU ht;simp only [T.n,h1,l8];rfl
theorem qk {a:E} (h:a.ok=true) {t:T} (ht:er t=a.tree):GF Tryz.prog 277 [.agg (cT t)] [] (.v (ii (a.lv:Int))) []:=by
 have:=JB t;rw [PL h ht] at this;exact this
theorem Ch (n:Int) (h:0<=n/\n<=2147483647):GF Tryz.prog 278 [.v (ii n)] [] (.v (sv (cm n.toNat))) []:=by
 have hw:=SK n
 have n5:yg n=n:=by unfold yg;rw [show n % 4294967296=n by omega,if_neg ah]
 rw [n5] at hw;have hd:=Gu n.toNat ah;rw [Int.toNat_of_nonneg h.1] at hd
 have h':decide (n < 0)=false:=by simpa using h.1
 refine aj Tryz.func278 Tryz.ntmps278 ?_;refine ab [] (hw) ?_;refine ab [] (hd) ?_;exact aq
abbrev lim:Nat:=1000000000000
def qE (a:E):Prop:=∀ (t:T) (k:Nat),a.ok=true->er t=a.tree->wt a.tree<=lim->¬ a.lv < k->GF Tryz.prog 252 [.agg (cT t),.v (ii (k:Int))] [] (.v (sv a.txt)) []
def nQ (a:E):Prop:=∀ (t:T) (k:Nat),a.ok=true->er t=a.tree->wt a.tree<=lim->GF Tryz.prog 252 [.agg (cT t),.v (ii (k:Int))] [] (.v (sv (pH a.lv k a.txt))) []
theorem qE.p {a:E} (C:qE a):nQ a:=by
 intro t k ho ht hb;unfold pH
 by_cases h:a.lv < k
 ·rw [if_pos h]
  have h':decide ((a.lv:Int) < (k:Int))=true:=by simpa using h
  have hl:=(E.len a ho).1;have h0:=C t 0 ho ht hb ah;have Qu:=hb;unfold lim at Qu;generalize a.txt=x at *;refine aj Tryz.func252 Tryz.ntmps252 ?_;refine ab [] (qk ho ht) ?_;refine ab [] (h0) ?_;exact aq
 ·rw [if_neg h];exact C t k ho ht hb h
theorem MB (n:Int):qE (.num n):=by
 intro t k ho ht hb h
 have h':decide (((E.num n).lv:Int) < (k:Int))=false:=by simpa using h
 have hg:=qk ho ht;obtain ⟨⟨kk,aa,vv,ss,ks⟩,l⟩:=t;obtain ⟨h1,h2,h3,hl⟩:=dU ht;simp only at h1 h2 h3;subst h1 h2 h3;simp only [E.ok,Bool.and_eq_true] at ho;have hn:=Ch vv ⟨of_decide_eq_true ho.1,of_decide_eq_true ho.2⟩;rw [E.txt];simp only [cT,T.n,T.kids] at hg |-;refine aj Tryz.func252 Tryz.ntmps252 ?_;refine ab [] (hg) ?_;refine ab [] (hn) ?_;exact aq
theorem JJ (s:ai):qE (.name s):=by
 intro t k ho ht hb h
 have h':decide (((E.name s).lv:Int) < (k:Int))=false:=by simpa using h
 have hg:=qk ho ht;obtain ⟨⟨kk,aa,vv,ss,ks⟩,l⟩:=t;obtain ⟨h1,h2,h3,hl⟩:=dU ht;simp only at h1 h2 h3;subst h1 h2 h3;rw [E.txt];simp only [cT,T.n,T.kids] at hg |-;refine aj Tryz.func252 Tryz.ntmps252 ?_;refine ab [] (hg) ?_;exact aq
theorem Pb (s:ai) (a:E) (C:nQ a):qE (.at_ s a):=by
 intro t k ho ht hb h
 have h':decide (((E.at_ s a).lv:Int) < (k:Int))=false:=by simpa using h
 have hg:=qk ho ht;obtain ⟨⟨kk,aa,vv,ss,ks⟩,l⟩:=t;obtain ⟨h1,h2,h3,hl⟩:=dU ht;simp only at h1 h2 h3;subst h1 h2 h3;obtain ⟨x,rfl,hx⟩:=vi hl;simp only [E.ok,Bool.and_eq_true] at ho;rw [E.tree,wt] at hb;simp only [ey,lim] at hb;have hc:=C x 0 ho.2 hx (by unfold lim;omega);unfold pH at hc;rw [if_neg ah] at hc;have hle:=(E.len a ho.2).1;have hr:(aP [x])[0]?=some (cT x):=cL rfl;rw [E.txt];generalize a.txt=y at *;simp only [cT,T.n,T.kids] at hg |-;refine aj Tryz.func252 Tryz.ntmps252 ?_;refine ab [] (hg) ?_;refine aE (aH [0,1,2,3,4,5,6,7] (.a 8 (.q 9 (.q 10 (.q 11 .nil))))) ?_;refine ak ?_;refine aC [] (hc) ?_;exact aw
theorem Pc (s:ai) (a:E) (C:nQ a):qE (.un s a):=by
 intro t k ho ht hb h
 have h':decide (((E.un s a).lv:Int) < (k:Int))=false:=by simpa using h
 have hg:=qk ho ht;obtain ⟨⟨kk,aa,vv,ss,ks⟩,l⟩:=t;obtain ⟨h1,h2,h3,hl⟩:=dU ht;simp only at h1 h2 h3;subst h1 h2 h3;obtain ⟨x,rfl,hx⟩:=vi hl;simp only [E.ok,Bool.and_eq_true] at ho;rw [E.tree,wt] at hb;simp only [ey,lim] at hb;have hc:=C x 9 ho.2 hx (by unfold lim;omega);have hle:=(E.len a ho.2).1;have zm:=Go.Xp.rF a.lv 9 a.txt;have hr:(aP [x])[0]?=some (cT x):=cL rfl;rw [E.txt];generalize pH a.lv 9 a.txt=y at *;simp only [cT,T.n,T.kids] at hg |-;refine aj Tryz.func252 Tryz.ntmps252 ?_;refine ab [] (hg) ?_;refine aE (aH [0,1,2,3,4,5,6,7] (.a 8 (.q 9 (.a 10 (.q 11 (.q 12 .nil)))))) ?_;refine ak ?_;refine aC [] (jc) ?_;refine aC [] (hc) ?_;exact aw
theorem MA (s:ai) (a b:E) (Ca:nQ a) (Cb:nQ b):qE (.bin s a b):=by
 intro t k ho ht hb h
 have h':decide (((E.bin s a b).lv:Int) < (k:Int))=false:=by simpa using h
 have hg:=qk ho ht;obtain ⟨⟨kk,aa,vv,ss,ks⟩,l⟩:=t;obtain ⟨h1,h2,h3,hl⟩:=dU ht;simp only at h1 h2 h3;subst h1 h2 h3;obtain ⟨x,y,rfl,hx,hy⟩:=Bo hl;simp only [E.ok,Bool.and_eq_true] at ho;rw [E.tree,wt] at hb;simp only [ey,lim] at hb;have TC:=Ca x (dF ss) ho.1.2 hx (by unfold lim;omega);have yA:=Cb y (dF ss+1) ho.2 hy (by unfold lim;omega);have HJ:=(Go.Xp.oM ho.1.1).1;have hle:=(E.len a ho.1.2).1;have zm:=Go.Xp.rF a.lv (dF ss) a.txt;have XS:=(E.len b ho.2).1;have aan:=Go.Xp.rF b.lv (dF ss+1) b.txt;have hr:(aP [x,y])[0]?=some (cT x):=cL rfl;have c6:(aP [x,y])[1]?=some (cT y):=cL rfl;rw [E.txt];simp only [E.lv] at hg h';generalize pH a.lv (dF ss) a.txt=u at *;generalize pH b.lv (dF ss+1) b.txt=w at *;simp only [cT,T.n,T.kids] at hg |-;refine aj Tryz.func252 Tryz.ntmps252 ?_;refine ab [] (hg) ?_;refine ab [] (hg) ?_;refine aE (aH [0,1,2,3,4,7,8,9,12,13,14,15,16,17] (.a 5 (.q 6 (.q 10 (.q 11 (.a 18 (.q 19 (.q 20 .nil)))))))) ?_;refine ak ?_;refine aC [] (TC) ?_;refine aC [] (yA) ?_;exact aw
end Go.Xg
namespace Go.Xg
open Go.RowKit Go.Xw Go.Proofs
open Go.Xp (Tok Nd T bd one levels Ar cm E S er aL wt ey pH dF bx AA vt)
open Go.Sp
attribute [local irreducible] GW GL GO YG GC GA aW aZ
def IZ (b:Bool) (a:E):Prop:=∀ t,er t=a.tree->GF Tryz.prog 218 [.agg (cT t),.v (.bool b)] [] (.v (sv (a.out b))) []
theorem Lj:∀ {ts:List T} {es:List E} (h:aL ts=E.trees es),ts.length=es.length/\∀ (k:Nat) t a,ts[k]?=some t->es[k]?=some a->er t=a.tree
 | [],[],_=>⟨rfl,fun k t a h=>by simp at h⟩
 | [],a::l,h=>by rw [aL,E.trees] at h;cases h
 | t::r,[],h=>by rw [aL,E.trees] at h;cases h
 | t::r,a::l,h=>by
  rw [aL,E.trees] at h
  injection h with h1 h2
  obtain ⟨h3,h4⟩:=Lj h2;refine ⟨by simp [h3],fun k t' a' ht ha=>?_⟩
  cases k with
  | zero=>cases ht;cases ha;exact h1
  | succ k=>exact h4 k t' a' (by simpa using ht) (by simpa using ha)
theorem CV (b:Bool) (es:List E) (C:∀ a∈es,IZ b a) (ts:List T) (sq:aL ts=E.trees es) (hb:(bx (es.map (E.out b))).length<=lim) (hn:es.length<=lim) :
  GF Tryz.prog 279 [.sl 6 (aP ts),.v (.bool b)] [] (.v (sv (bx (es.map (E.out b))))) []:=by
 obtain ⟨hlen,wa⟩:=Lj sq;unfold lim at hb hn;refine aj Tryz.func279 Tryz.ntmps279 ?_;refine GW.range (aP ts).length (fun k fr Γ=>∃ y,fr=[.U,.v (.bool b),.U,.U,.U,.v (sv y),.U,.U,.sl 6 (aP ts),.v (ii ((aP ts).length:Int)),.v (ii (k:Nat)),.U,.U,.U,.U,.U,.U,.U,.U,.U,.U,.U,.U,.U,.U,.U]/\Γ=[]/\y=bx ((es.map (E.out b)).take k)) ?_ (by rw [aQ];omega) ?_ ?_ ?_
 ·exact ⟨_,_,Wk.ax ao,[],rfl,rfl,by simp [bx]⟩
 ·rintro k _ _ ⟨y,rfl,rfl,_⟩;exact ⟨rfl,rfl,rfl⟩
 ·rintro k _ _ hk ⟨y,rfl,rfl,hy⟩
  have hk:k < es.length:=by rw [aQ,hlen] at hk;exact hk
  have wg:k < ts.length:=by omega
  have hx:es[k]?=some es[k]:=by simp [hk]
  have ht:ts[k]?=some ts[k]:=by simp [wg]
  have he:=wa k _ _ ht hx;have hr:=cL ht;have hc:=C _ (mem_of_getElem? hx) _ he;have se:=vt (es.map (E.out b)) (k+1);have XM:=vt (es.map (E.out b)) k
  have jD:(es.map (E.out b)).take (k+1)=(es.map (E.out b)).take k++[es[k].out b]:=by
   rw [take_add_one,getElem?_map,hx];rfl
  rw [jD] at se;generalize ts[k]=t at *;generalize es[k]=a at *;generalize a.out b=x at *
  by_cases h0:k=0
  ·subst h0
   have r8:decide ((0:Int) < ((0:Nat):Int))=false:=by decide
   have hj:bx ((es.map (E.out b)).take 0++[x])=[]++x:=by simp [bx]
   have Qz:bx ((es.map (E.out b)).take 0)=[]:=by simp [bx]
   rw [Qz] at hy;subst hy;rw [hj] at se
   have se:x.length<=(bx (es.map (E.out b))).length:=by simpa using se
   refine ae ?_;refine ab [] (hc) ?_;exact ⟨rfl,rfl,_,_,(Wk.cut (n:=0) (Nat.le_of_ble_eq_true rfl) rfl).trans (Wk.ax ao),_,rfl,rfl,by rw [jD,hj]⟩
  ·have r8:decide ((0:Int) < (k:Int))=true:=by simpa using by omega
   have bL:(es.map (E.out b)).take k≠[]:=by
    intro h;rw [List.take_eq_nil_iff] at h
    rcases h with h | h
    ·exact h0 h
    ·rw [List.map_eq_nil_iff] at h;subst h;simp at hk
   have hj:=AA bL x;rw [hj] at se;rw [<-hy] at se hj XM;simp only [length_append,length_cons,length_nil] at se;refine ae ?_;refine ab [] (hc) ?_;exact ⟨rfl,rfl,_,_,(Wk.cut (n:=0) (Nat.le_of_ble_eq_true rfl) rfl).trans (Wk.ax ao),_,rfl,rfl,by rw [jD,hj]⟩
 ·rintro _ _ ⟨y,rfl,rfl,hy⟩;have:(es.map (E.out b)).take (aP ts).length=es.map (E.out b):=take_of_length_le (by rw [aQ,hlen];simp);rw [this] at hy;subst hy;exact aw
theorem nQ.out {a:E} (C:nQ a) (ho:a.ok=true) (hb:wt a.tree<=lim):IZ true a:=by
 intro t ht;have h0:=C t 0 ho ht hb;unfold pH at h0;rw [if_neg ah] at h0;show GF _ _ _ _ (.v (sv a.txt)) _;refine aj Tryz.func218 Tryz.ntmps218 ?_;refine ab [] (h0) ?_;exact aq
theorem B9:∀ l:List E,l.length<=ey (E.trees l)
 | []=>Nat.zero_le _
 | a::l=>by
  have:=B9 l;rw [E.trees,ey,length_cons]
  have:1<=wt a.tree:=by cases a <;> (rw [E.tree,wt];omega)
  omega
theorem Cc:∀ {l:List E} {a:E},a∈l->wt a.tree<=ey (E.trees l)
 | [],_,h=>by cases h
 | b::l,a,h=>by
  rw [E.trees,ey]
  rcases List.mem_cons.1 h with rfl | h
  ·omega
  ·have:=Cc h;omega
theorem BR:∀ {l:List E} {a:E},E.cH l=true->a∈l->a.ok=true
 | [],_,_,h=>by cases h
 | b::l,a,ho,h=>by
  simp only [E.cH,Bool.and_eq_true] at ho
  rcases List.mem_cons.1 h with rfl | h
  ·exact ho.1
  ·exact BR ho.2 h
theorem JI (s:ai) (es:List E) (C:∀ a∈es,nQ a):qE (.call s es):=by
 intro t k ho ht hb h
 have h':decide (((E.call s es).lv:Int) < (k:Int))=false:=by simpa using h
 have hg:=qk ho ht;obtain ⟨⟨kk,aa,vv,ss,ks⟩,l⟩:=t;obtain ⟨h1,h2,h3,hl⟩:=dU ht;simp only at h1 h2 h3;subst h1 h2 h3;simp only [E.ok,Bool.and_eq_true] at ho;rw [E.tree,wt] at hb;have hle:=(E.lens es ho.2).1;have hn:=B9 es
 have Ez:E.cB es=es.map (E.out true):=by rw [E.PU];rfl
 have hj:=CV true es (fun a ha=>(C a ha).out (BR ho.2 ha) (by have:=Cc ha;omega)) l hl (by rw [<-Ez];omega) ah;rw [<-Ez] at hj;unfold lim at hb;simp only at hb;rw [E.txt];generalize bx (E.cB es)=y at *;simp only [cT,T.n,T.kids] at hg |-;refine aj Tryz.func252 Tryz.ntmps252 ?_;refine ab [] (hg) ?_;refine aE (aH [0,1,2,3,4,5] (.a 6 (.q 7 (.q 8 (.q 9 .nil))))) ?_;refine ak ?_;refine aC [] (hj) ?_;exact aw
mutual
theorem uE:∀ a:E,nQ a
 | .num n=>(MB n).p
 | .name s=>(JJ s).p
 | .at_ s a=>(Pb s a (uE a)).p
 | .call s l=>(JI s l (H4 l)).p
 | .un s a=>(Pc s a (uE a)).p
 | .bin s a b=>(MA s a b (uE a) (uE b)).p
theorem H4:∀ l:List E,∀ a∈l,nQ a
 | []=>fun a h=>by cases h
 | b::l=>fun a h=>by
  rcases List.mem_cons.1 h with h | h
  ·rw [h];exact uE b
  ·exact H4 l a h
end
def ly (a:E):Prop:=∀ (t:T),a.ok=true->er t=a.tree->wt a.tree<=lim->GF Tryz.prog 253 [.agg (cT t)] [] (.v (sv a.full)) []
theorem ly.out {a:E} (C:ly a) (ho:a.ok=true) (hb:wt a.tree<=lim):IZ false a:=by
 intro t ht;have h0:=C t ho ht hb;show GF _ _ _ _ (.v (sv a.full)) _;refine aj Tryz.func218 Tryz.ntmps218 ?_;refine ab [] (h0) ?_;exact aq
theorem OE (n:Int):ly (.num n):=by
 intro t ho ht hb;obtain ⟨⟨kk,aa,vv,ss,ks⟩,l⟩:=t;obtain ⟨h1,h2,h3,hl⟩:=dU ht;simp only at h1 h2 h3;subst h1 h2 h3;simp only [E.ok,Bool.and_eq_true] at ho;have hn:=Ch vv ⟨of_decide_eq_true ho.1,of_decide_eq_true ho.2⟩;rw [E.full];simp only [cT,T.n,T.kids];refine aj Tryz.func253 Tryz.ntmps253 ?_;refine ab [] (hn) ?_;exact aq
theorem LB (s:ai):ly (.name s):=by
 intro t ho ht hb;obtain ⟨⟨kk,aa,vv,ss,ks⟩,l⟩:=t;obtain ⟨h1,h2,h3,hl⟩:=dU ht;simp only at h1 h2 h3;subst h1 h2 h3;rw [E.full];simp only [cT,T.n,T.kids];refine aj Tryz.func253 Tryz.ntmps253 ?_;exact aq
theorem RD (s:ai) (a:E) (C:ly a):ly (.at_ s a):=by
 intro t ho ht hb;obtain ⟨⟨kk,aa,vv,ss,ks⟩,l⟩:=t;obtain ⟨h1,h2,h3,hl⟩:=dU ht;simp only at h1 h2 h3;subst h1 h2 h3;obtain ⟨x,rfl,hx⟩:=vi hl;simp only [E.ok,Bool.and_eq_true] at ho;rw [E.tree,wt] at hb;simp only [ey,lim] at hb;have hc:=C x ho.2 hx (by unfold lim;omega);have hle:=(E.len a ho.2).2;have hr:(aP [x])[0]?=some (cT x):=cL rfl;rw [E.full];generalize a.full=y at *;simp only [cT,T.n,T.kids] at |-;refine aj Tryz.func253 Tryz.ntmps253 ?_;refine aE (aH [0,1,2,3,4,5,6,7] (.a 8 (.q 9 (.q 10 (.q 11 .nil))))) ?_;refine ak ?_;refine aC [] (hc) ?_;exact aw
theorem LA (s:ai) (es:List E) (C:∀ a∈es,ly a):ly (.call s es):=by
 intro t ho ht hb;obtain ⟨⟨kk,aa,vv,ss,ks⟩,l⟩:=t;obtain ⟨h1,h2,h3,hl⟩:=dU ht;simp only at h1 h2 h3;subst h1 h2 h3;simp only [E.ok,Bool.and_eq_true] at ho;rw [E.tree,wt] at hb;have hle:=(E.lens es ho.2).2;have hn:=B9 es
 have Ez:E.ry es=es.map (E.out false):=by rw [E.LC];rfl
 have hj:=CV false es (fun a ha=>(C a ha).out (BR ho.2 ha) (by have:=Cc ha;omega)) l hl (by rw [<-Ez];omega) ah;rw [<-Ez] at hj;unfold lim at hb;simp only at hb;rw [E.full];generalize bx (E.ry es)=y at *;simp only [cT,T.n,T.kids] at |-;refine aj Tryz.func253 Tryz.ntmps253 ?_;refine aE (aH [0,1,2,3,4,5] (.a 6 (.q 7 (.q 8 (.q 9 .nil))))) ?_;refine ak ?_;refine aC [] (hj) ?_;exact aw
theorem RE (s:ai) (a:E) (C:ly a):ly (.un s a):=by
 intro t ho ht hb;obtain ⟨⟨kk,aa,vv,ss,ks⟩,l⟩:=t;obtain ⟨h1,h2,h3,hl⟩:=dU ht;simp only at h1 h2 h3;subst h1 h2 h3;obtain ⟨x,rfl,hx⟩:=vi hl;simp only [E.ok,Bool.and_eq_true] at ho;rw [E.tree,wt] at hb;simp only [ey,lim] at hb;have hc:=C x ho.2 hx (by unfold lim;omega);have hle:=(E.len a ho.2).2;have hr:(aP [x])[0]?=some (cT x):=cL rfl;rw [E.full];generalize a.full=y at *;simp only [cT,T.n,T.kids] at |-;refine aj Tryz.func253 Tryz.ntmps253 ?_;refine aE (aH [0,1,2,3,4,5,6,7] (.a 8 (.q 9 (.q 10 (.q 11 .nil))))) ?_;refine ak ?_;refine aC [] (hc) ?_;exact aw
theorem OD (s:ai) (a b:E) (Ca:ly a) (Cb:ly b):ly (.bin s a b):=by
 intro t ho ht hb;obtain ⟨⟨kk,aa,vv,ss,ks⟩,l⟩:=t;obtain ⟨h1,h2,h3,hl⟩:=dU ht;simp only at h1 h2 h3;subst h1 h2 h3;obtain ⟨x,y,rfl,hx,hy⟩:=Bo hl;simp only [E.ok,Bool.and_eq_true] at ho;rw [E.tree,wt] at hb;simp only [ey,lim] at hb;have TC:=Ca x ho.1.2 hx (by unfold lim;omega);have yA:=Cb y ho.2 hy (by unfold lim;omega);have hle:=(E.len a ho.1.2).2;have XS:=(E.len b ho.2).2;have hr:(aP [x,y])[0]?=some (cT x):=cL rfl;have c6:(aP [x,y])[1]?=some (cT y):=cL rfl;rw [E.full];generalize a.full=u at *;generalize b.full=w at *;simp only [cT,T.n,T.kids] at |-;refine aj Tryz.func253 Tryz.ntmps253 ?_;refine aE (aH [0,1,2,3,7,8,9,12,13,14,15] (.a 4 (.q 5 (.q 6 (.q 10 (.q 11 (.a 16 (.q 17 (.q 18 (.q 19 .nil)))))))))) ?_;refine ak ?_;refine aC [] (TC) ?_;refine aC [] (yA) ?_;exact aw
mutual
theorem xQ:∀ a:E,ly a
 | .num n=>OE n
 | .name s=>LB s
 | .at_ s a=>RD s a (xQ a)
 | .call s l=>LA s l (Lz l)
 | .un s a=>RE s a (xQ a)
 | .bin s a b=>OD s a b (xQ a) (xQ b)
theorem Lz:∀ l:List E,∀ a∈l,ly a
 | []=>fun a h=>by cases h
 | b::l=>fun a h=>by
  rcases List.mem_cons.1 h with h | h
  ·rw [h];exact xQ b
  ·exact Lz l a h
end
theorem pj (b:Bool) {a:E} (ho:a.ok=true) (hb:wt a.tree<=lim):IZ b a:=by
 cases b with
 | true=>exact (uE a).out ho hb
 | false=>exact (xQ a).out ho hb
theorem iH (b:Bool) (a:E) (ho:a.ok=true):(a.out b).length+4<=wt a.tree:=by
 have:=E.len a ho
 cases b with
 | true=>exact this.1
 | false=>exact this.2
end Go.Xg
namespace Go.Xg
open Go.RowKit Go.Xw Go.Proofs
open Go.Xp (Tok Nd T bd one levels Ar cm E S er aL wt ey bC eM)
open Go.Sp
attribute [local irreducible] GW GL GO YG GC GA aW aZ
theorem IH (x:E->Go.Xp.ai):∀ (l:List S) (acc:Go.Xp.ai),acc.length<=(S.cB x acc l).length
 | [],acc=>by rw [S.cB];omega
 | a::l,acc=>by
  rw [S.cB];have:=IH x l (acc++a.txt x++[32]);simp only [length_append,length_cons,length_nil] at this;omega
def my (b:Bool) (s:S):Prop:=∀ t,s.ok=true->er t=s.tree->wt s.tree<=lim->GF Tryz.prog 190 [.agg (cT t),.v (.bool b)] [] (.v (sv (s.txt (E.out b)))) []
def tY (b:Bool) (l:List S):Prop:=∀ t,S.cH l=true->er t=bC l->wt (bC l)<=lim->GF Tryz.prog 190 [.agg (cT t),.v (.bool b)] [] (.v (sv (eM (E.out b) l))) []
theorem Is:∀ {ts:List T} {es:List S} (h:aL ts=S.trees es),ts.length=es.length/\∀ (k:Nat) t a,ts[k]?=some t->es[k]?=some a->er t=a.tree
 | [],[],_=>⟨rfl,fun k t a h=>by simp at h⟩
 | [],a::l,h=>by rw [aL,S.trees] at h;cases h
 | t::r,[],h=>by rw [aL,S.trees] at h;cases h
 | t::r,a::l,h=>by
  rw [aL,S.trees] at h
  injection h with h1 h2
  obtain ⟨h3,h4⟩:=Is h2;refine ⟨by simp [h3],fun k t' a' ht ha=>?_⟩
  cases k with
  | zero=>cases ht;cases ha;exact h1
  | succ k=>exact h4 k t' a' (by simpa using ht) (by simpa using ha)
theorem FZ:∀ {l:List S} {a:S},a∈l->wt a.tree<=ey (S.trees l)
 | [],_,h=>by cases h
 | b::l,a,h=>by
  rw [S.trees,ey]
  rcases List.mem_cons.1 h with rfl | h
  ·omega
  ·have:=FZ h;omega
theorem FY:∀ l:List S,l.length<=ey (S.trees l)
 | []=>Nat.zero_le _
 | a::l=>by
  have:=FY l;rw [S.trees,ey,length_cons]
  have:1<=wt a.tree:=by cases a <;> (rw [S.tree,wt];omega)
  omega
theorem FL:∀ {l:List S} {a:S},S.cH l=true->a∈l->a.ok=true
 | [],_,_,h=>by cases h
 | b::l,a,ho,h=>by
  simp only [S.cH,Bool.and_eq_true] at ho
  rcases List.mem_cons.1 h with rfl | h
  ·exact ho.1
  ·exact FL ho.2 h
theorem NG (b:Bool) (s:Go.Xp.ai) (a:E):my b (.var s a):=by
 intro t ho ht hb;obtain ⟨⟨kk,aa,vv,ss,ks⟩,l⟩:=t;obtain ⟨h1,h2,h3,hl⟩:=dU ht;simp only at h1 h2 h3;subst h1 h2 h3;obtain ⟨x0,rfl,pR⟩:=vi hl;simp only [S.ok,Bool.and_eq_true] at ho;rw [S.tree,wt] at hb;simp only [ey,lim] at hb;have o9:=pj b (a:=a) ho.2 (by unfold lim;omega) x0 pR;have ux:=iH b a ho.2;have qO:(aP [x0])[0]?=some (cT x0):=cL rfl;rw [S.txt];generalize a.out b=y0 at *;simp only [cT,T.n,T.kids];refine aj Tryz.func190 Tryz.ntmps190 ?_;refine aE (aH [0,1,2,3,4,5,6,7,8,9] (.a 10 (.q 11 (.q 12 (.q 13 .nil))))) ?_;refine ak ?_;refine aC [] (o9) ?_;exact aw
theorem NF (b:Bool) (s:Go.Xp.ai) (a:E):my b (.set s a):=by
 intro t ho ht hb;obtain ⟨⟨kk,aa,vv,ss,ks⟩,l⟩:=t;obtain ⟨h1,h2,h3,hl⟩:=dU ht;simp only at h1 h2 h3;subst h1 h2 h3;obtain ⟨x0,rfl,pR⟩:=vi hl;simp only [S.ok,Bool.and_eq_true] at ho;rw [S.tree,wt] at hb;simp only [ey,lim] at hb;have o9:=pj b (a:=a) ho.2 (by unfold lim;omega) x0 pR;have ux:=iH b a ho.2;have qO:(aP [x0])[0]?=some (cT x0):=cL rfl;rw [S.txt];generalize a.out b=y0 at *;simp only [cT,T.n,T.kids];refine aj Tryz.func190 Tryz.ntmps190 ?_;refine aE (aH [0,1,2,3,4,5,6,7,8] (.a 9 (.q 10 (.q 11 (.q 12 .nil))))) ?_;refine ak ?_;refine aC [] (o9) ?_;exact aw
theorem NC (b:Bool) (s:Go.Xp.ai) (a:E) (c:E):my b (.put s a c):=by
 intro t ho ht hb;obtain ⟨⟨kk,aa,vv,ss,ks⟩,l⟩:=t;obtain ⟨h1,h2,h3,hl⟩:=dU ht;simp only at h1 h2 h3;subst h1 h2 h3;obtain ⟨x0,x1,rfl,pR,rp⟩:=Bo hl;simp only [S.ok,Bool.and_eq_true] at ho;rw [S.tree,wt] at hb;simp only [ey,lim] at hb;have o9:=pj b (a:=a) ho.2.1 (by unfold lim;omega) x0 pR;have ux:=iH b a ho.2.1;have qO:(aP [x0,x1])[0]?=some (cT x0):=cL rfl;have r9:=pj b (a:=c) ho.2.2 (by unfold lim;omega) x1 rp;have eX:=iH b c ho.2.2;have fR:(aP [x0,x1])[1]?=some (cT x1):=cL rfl;rw [S.txt];generalize a.out b=y0 at *;generalize c.out b=y1 at *;simp only [cT,T.n,T.kids];refine aj Tryz.func190 Tryz.ntmps190 ?_;refine aE (aH [0,1,2,3,4,5,6,7,8,12,13,14,15,16] (.a 9 (.q 10 (.q 11 (.a 17 (.q 18 (.q 19 (.q 20 .nil)))))))) ?_;refine ak ?_;refine aC [] (o9) ?_;refine aC [] (r9) ?_;exact aw
theorem NA (b:Bool) (c:E) (p:List S) (Cp:tY b p):my b (.if1 c p):=by
 intro t ho ht hb;obtain ⟨⟨kk,aa,vv,ss,ks⟩,l⟩:=t;obtain ⟨h1,h2,h3,hl⟩:=dU ht;simp only at h1 h2 h3;subst h1 h2 h3;obtain ⟨x0,x1,rfl,pR,rp⟩:=Bo hl;simp only [S.ok,Bool.and_eq_true] at ho;rw [S.tree,wt] at hb;simp only [ey,lim] at hb;have o9:=pj b (a:=c) ho.1 (by unfold lim;omega) x0 pR;have ux:=iH b c ho.1;have qO:(aP [x0,x1])[0]?=some (cT x0):=cL rfl;have r9:=Cp x1 ho.2 rp (by unfold lim bC;omega);have eX:=Go.Xp.rE (E.out b) (iH b) ho.2;rw [bC] at eX;have fR:(aP [x0,x1])[1]?=some (cT x1):=cL rfl;rw [S.txt];generalize c.out b=y0 at *
 change GF _ _ _ _ (.v (sv _)) _ at r9
 unfold eM at r9 eX;generalize S.cB (E.out b) [123,32] p++[125]=y1 at *;simp only [cT,T.n,T.kids];refine aj Tryz.func190 Tryz.ntmps190 ?_;refine aE (aH [0,1,2,3,4,8,9,10,11,12] (.a 5 (.q 6 (.q 7 (.a 13 (.q 14 (.q 15 .nil))))))) ?_;refine ak ?_;refine aC [] (o9) ?_;refine aC [] (r9) ?_;exact aw
theorem NB (b:Bool) (c:E) (p:List S) (q:List S) (Cp:tY b p) (Cq:tY b q):my b (.if2 c p q):=by
 intro t ho ht hb;obtain ⟨⟨kk,aa,vv,ss,ks⟩,l⟩:=t;obtain ⟨h1,h2,h3,hl⟩:=dU ht;simp only at h1 h2 h3;subst h1 h2 h3;obtain ⟨x0,x1,x2,rfl,pR,rp,HP⟩:=Xm hl;simp only [S.ok,Bool.and_eq_true] at ho;rw [S.tree,wt] at hb;simp only [ey,lim] at hb;have o9:=pj b (a:=c) ho.1 (by unfold lim;omega) x0 pR;have ux:=iH b c ho.1;have qO:(aP [x0,x1,x2])[0]?=some (cT x0):=cL rfl;have r9:=Cp x1 ho.2.1 rp (by unfold lim bC;omega);have eX:=Go.Xp.rE (E.out b) (iH b) ho.2.1;rw [bC] at eX;have fR:(aP [x0,x1,x2])[1]?=some (cT x1):=cL rfl;have jl:=Cq x2 ho.2.2 HP (by unfold lim bC;omega);have ja:=Go.Xp.rE (E.out b) (iH b) ho.2.2;rw [bC] at ja;have c6:(aP [x0,x1,x2])[2]?=some (cT x2):=cL rfl;rw [S.txt];generalize c.out b=y0 at *
 change GF _ _ _ _ (.v (sv _)) _ at r9
 unfold eM at r9 eX;generalize S.cB (E.out b) [123,32] p++[125]=y1 at *
 change GF _ _ _ _ (.v (sv _)) _ at jl
 unfold eM at jl ja;generalize S.cB (E.out b) [123,32] q++[125]=y2 at *;simp only [cT,T.n,T.kids];refine aj Tryz.func190 Tryz.ntmps190 ?_;refine aE (aH [0,1,2,3,4,8,9,10,11,12] (.a 5 (.q 6 (.q 7 (.a 13 (.q 14 (.q 15 .nil))))))) ?_;refine ak ?_;refine aC [] (o9) ?_;refine aC [] (r9) ?_;refine ae ?_;refine ab [] (jl) ?_;exact aq
theorem G4 (b:Bool) (c:E) (p:List S) (Cp:tY b p):my b (.while_ c p):=by
 intro t ho ht hb;obtain ⟨⟨kk,aa,vv,ss,ks⟩,l⟩:=t;obtain ⟨h1,h2,h3,hl⟩:=dU ht;simp only at h1 h2 h3;subst h1 h2 h3;obtain ⟨x0,x1,rfl,pR,rp⟩:=Bo hl;simp only [S.ok,Bool.and_eq_true] at ho;rw [S.tree,wt] at hb;simp only [ey,lim] at hb;have o9:=pj b (a:=c) ho.1 (by unfold lim;omega) x0 pR;have ux:=iH b c ho.1;have qO:(aP [x0,x1])[0]?=some (cT x0):=cL rfl;have r9:=Cp x1 ho.2 rp (by unfold lim bC;omega);have eX:=Go.Xp.rE (E.out b) (iH b) ho.2;rw [bC] at eX;have fR:(aP [x0,x1])[1]?=some (cT x1):=cL rfl;rw [S.txt];generalize c.out b=y0 at *
 change GF _ _ _ _ (.v (sv _)) _ at r9
 unfold eM at r9 eX;generalize S.cB (E.out b) [123,32] p++[125]=y1 at *;simp only [cT,T.n,T.kids];refine aj Tryz.func190 Tryz.ntmps190 ?_;refine aE (aH [0,1,2,3,4,8,9,10,11,12] (.a 5 (.q 6 (.q 7 (.a 13 (.q 14 (.q 15 .nil))))))) ?_;refine ak ?_;refine aC [] (o9) ?_;refine aC [] (r9) ?_;exact aw
theorem ND (b:Bool) (a:E):my b (.ret a):=by
 intro t ho ht hb;obtain ⟨⟨kk,aa,vv,ss,ks⟩,l⟩:=t;obtain ⟨h1,h2,h3,hl⟩:=dU ht;simp only at h1 h2 h3;subst h1 h2 h3;obtain ⟨x0,rfl,pR⟩:=vi hl;simp only [S.ok] at ho;rw [S.tree,wt] at hb;simp only [ey,lim] at hb;have o9:=pj b (a:=a) ho (by unfold lim;omega) x0 pR;have ux:=iH b a ho;have qO:(aP [x0])[0]?=some (cT x0):=cL rfl;rw [S.txt];generalize a.out b=y0 at *;simp only [cT,T.n,T.kids];refine aj Tryz.func190 Tryz.ntmps190 ?_;refine ab [] (o9) ?_;exact aq
theorem P5 (b:Bool) (a:E):my b (.do_ a):=by
 intro t ho ht hb;obtain ⟨⟨kk,aa,vv,ss,ks⟩,l⟩:=t;obtain ⟨h1,h2,h3,hl⟩:=dU ht;simp only at h1 h2 h3;subst h1 h2 h3;obtain ⟨x0,rfl,pR⟩:=vi hl;simp only [S.ok] at ho;rw [S.tree,wt] at hb;simp only [ey,lim] at hb;have o9:=pj b (a:=a) ho (by unfold lim;omega) x0 pR;have ux:=iH b a ho;have qO:(aP [x0])[0]?=some (cT x0):=cL rfl;rw [S.txt];generalize a.out b=y0 at *;simp only [cT,T.n,T.kids];refine aj Tryz.func190 Tryz.ntmps190 ?_;refine ab [] (o9) ?_;exact aq
theorem qZ (b:Bool) (es:List S) (C:∀ a∈es,my b a):tY b es:=by
 intro t ho ht hb;obtain ⟨⟨kk,aa,vv,ss,ks⟩,l⟩:=t;obtain ⟨h1,h2,h3,hl⟩:=dU ht;simp only at h1 h2 h3;subst h1 h2 h3;obtain ⟨hlen,wa⟩:=Is hl;have mi:=Go.Xp.rE (E.out b) (iH b) ho;rw [bC,wt] at hb;rw [bC,wt] at mi;have hn:=FY es;unfold eM at mi |-;unfold lim at hb;simp only [length_append,length_cons,length_nil] at hb mi;simp only [cT,T.n,T.kids];refine aj Tryz.func190 Tryz.ntmps190 ?_;refine GW.range (aP l).length (fun k fr Γ=>∃ y,fr=[.U,.v (.bool b),.loc 0 0,.U,.U,.U,.v (sv y),.U,.U,.U,.U,.U,.U,.U,.U,.U,.U,.U,.U,.U,.U,.U,.U,.U,.U,.U,.U,.U,.U,.U,.U,.U,.U,.U,.U,.U,.U,.U,.U,.U,.U,.U,.U,.U,.U,.U,.U,.U,.U,.U,.U,.U,.U,.U,.U,.U,.U,.U,.U,.U,.U,.U,.U,.U,.U,.U,.U,.U,.U,.U,.U,.U,.U,.U,.U,.U,.U,.U,.U,.U,.U,.U,.U,.U,.U,.U,.U,.U,.U,.U,.U,.U,.U,.U,.U,.U,.U,.U,.U,.U,.U,.U,.U,.U,.U,.U,.U,.U,.U,.U,.U,.U,.U,.U,.U,.U,.U,.U,.U,.U,.U,.U,.U,.U,.U,.U,.U,.U,.U,.U,.U,.sl 6 (aP l),.v (ii ((aP l).length:Int)),.v (ii (k:Nat)),.U,.U,.U,.U,.U,.U,.U,.U,.U,.U,.U,.U]/\Γ=[.box 94 [.v (ii 14),.v (ii aa),.v (ii 0),.v (sv []),ints ks,.sl 6 (aP l)]]/\S.cB (E.out b) y (es.drop k)=S.cB (E.out b) [123,32] es) ?_ (by rw [aQ];omega) ?_ ?_ ?_
 ·exact ⟨_,_,Wk.ax ao,_,rfl,rfl,rfl⟩
 ·rintro k _ _ ⟨y,rfl,rfl,_⟩;exact ⟨rfl,rfl,rfl⟩
 ·rintro k _ _ hk ⟨y,rfl,rfl,hy⟩
  have hk:k < es.length:=by rw [aQ,hlen] at hk;exact hk
  have wg:k < l.length:=by omega
  have hx:es[k]?=some es[k]:=by simp [hk]
  have jD:l[k]?=some l[k]:=by simp [wg]
  have hr:=cL jD;rw [drop_eq_getElem_cons hk,S.cB] at hy;have hm:=mem_of_getElem? hx;have hc:=C _ hm _ (FL ho hm) (wa k _ _ jD hx) (by have:=FZ hm;unfold lim;omega);generalize l[k]=t at *;generalize hgx:es[k].txt (E.out b)=x at *;have kQ:=IH (E.out b) (es.drop (k+1)) (y++x++[32]);rw [hy] at kQ;simp only [length_append,length_cons,length_nil] at kQ;refine ae ?_;refine ab [] (hc) ?_;exact ⟨rfl,rfl,_,_,(Wk.cut (n:=1) (Nat.le_of_ble_eq_true rfl) rfl).trans (Wk.ax ao),_,rfl,rfl,hy⟩
 ·rintro _ _ ⟨y,rfl,rfl,hy⟩;rw [List.drop_of_length_le (by rw [aQ,hlen];exact Nat.le_refl _),S.cB] at hy;subst hy;exact aw
mutual
theorem Ve (b:Bool):∀ s:S,my b s
 | .set s a=>NF b s a
 | .put s a c=>NC b s a c
 | .if1 c p=>NA b c p (qZ b p (rN b p))
 | .if2 c p q=>NB b c p q (qZ b p (rN b p)) (qZ b q (rN b q))
 | .while_ c p=>G4 b c p (qZ b p (rN b p))
 | .ret a=>ND b a
 | .do_ a=>P5 b a
 | .var s a=>NG b s a
theorem rN (b:Bool):∀ l:List S,∀ a∈l,my b a
 | []=>fun a h=>by cases h
 | c::l=>fun a h=>by
  rcases List.mem_cons.1 h with h | h
  ·rw [h];exact Ve b c
  ·exact rN b l a h
end
theorem Vd (b:Bool) (l:List S):tY b l:=qZ b l (rN b l)
end Go.Xg
namespace Go.Xg
open Go.RowKit Go.Xw Go.Proofs
open Go.Xp (Tok Nd T bd one levels Ar cm E S er aL wt ey bC eM eh)
open Go.Sp
attribute [local irreducible] GW GL GO YG GC GA aW aZ
theorem Mu (p:Src) (hp:AW p) (ls:List (List S)) (hb:DG p ls):GF Tryz.prog 152 [.agg (av p)] [] (.v (.bool (ls.all fun l=>eh l 1))) []:=by
 refine aj Tryz.func152 Tryz.ntmps152 ?_;refine GW.range (p.fns.map au).length (fun k fr Γ=>fr=[.U,.loc 0 0,.U,.U,.U,.U,.U,.U,.sl 3 (p.fns.map au),.v (ii ((p.fns.map au).length:Int)),.v (ii (k:Nat)),.U,.U,.U,.U,.U,.U,.U,.U,.U,.U,.U,.U,.U,.U,.U,.U,.U,.U,.U,.U,.U,.U,.U,.U,.U,.U,.U,.U,.U,.U,.U,.U,.U,.U]/\Γ=[.box 34 (av p)]/\((ls.take k).all fun l=>eh l 1)=true) ?_ (by simpa using by have:=hp.fns.1;omega) ?_ ?_ ?_
 ·exact ⟨_,_,Wk.ax ao,rfl,rfl,rfl⟩
 ·rintro k _ _ ⟨rfl,rfl,_⟩;exact ⟨rfl,rfl,rfl⟩
 ·rintro k _ _ hk ⟨rfl,rfl,hf⟩
  have hk:k < p.fns.length:=by simpa using hk
  have eW:k < ls.length:=by rw [hb.len];exact hk
  have hx:p.fns[k]?=some p.fns[k]:=by simp [hk]
  have yJ:ls[k]?=some ls[k]:=by simp [eW]
  have hr:=AO hx;obtain ⟨h0,ho,hw,t,pe,Ze⟩:=hb.at_ k _ _ hx yJ;have hs:=DC p (fun n hn=>(hp.nodes.2 n hn).2) _ _ _ pe;rw [Int.toNat_of_nonneg h0] at hs;have EN:=Vd true ls[k] t ho Ze (by unfold lim;omega);obtain ⟨ts,t2,q,f,h1,h2,h3,h4,h5,h6,h7⟩:=Rf ho hw;have jD:=Mv _ ts ah h1;have Zu:RS.ok ⟨ts,0,(eM E.txt ls[k]).length,0,0⟩:=⟨Nat.zero_le _,by simp only;omega⟩;have dq:=(sds f).block 1 _ t2 q Zu ah h5
  have kc:(E.out true)=E.txt:=by funext a;rfl
  rw [kc] at EN;generalize eM E.txt ls[k]=tx at *;generalize tO:eh ls[k] 1=fit at *;generalize p.fns[k]=x at *
  rcases h7 with ⟨h7,h8,rfl⟩ | ⟨h7,rfl⟩
  ·have r9:(q.code != 0)=false:=by simpa using h7
   have jl:((q.i:Int) != ((q.l.map cV).length:Int))=false:=by rw [length_map,h6];simp [h8]
   refine ae ?_;refine ab [] (hs) ?_;refine ab [] (EN) ?_;refine ab [] (jD) ?_;refine ab [2] (dq) ?_;refine aE (aH [0,1,2,3,4,5,6,7,8,9,10,11,12,13,14,15,16] .nil) ?_;refine ak ?_;refine ae ?_;exact ⟨rfl,rfl,_,_,(Wk.cut (n:=1) (Nat.le_of_ble_eq_true rfl) rfl).trans (Wk.ax ao),rfl,rfl,rU yJ hf tO⟩
  ·have r9:(q.code != 0)=true:=by simpa using h7
   have aR:(ls.all fun l=>eh l 1)=false:=ua yJ tO;rw [aR];refine ae ?_;refine ab [] (hs) ?_;refine ab [] (EN) ?_;refine ab [] (jD) ?_;refine ab [2] (dq) ?_;refine aE (aH [0,1,2,3,4,5,6,7,8,9,10,11,12,13,14,15,16] .nil) ?_;refine ak ?_;exact aw
 ·rintro _ _ ⟨rfl,rfl,hf⟩;rw [take_of_length_le (by rw [length_map,hb.len];exact Nat.le_refl _)] at hf;rw [hf];exact aw
theorem Ks (p:Src) (hp:AW p) (h:nw p=some false):GF Tryz.prog 129 [.agg (av p)] [] (.v (.bool false)) []:=by
 have hs:=AB p hp false h;refine aj Tryz.func129 Tryz.ntmps129 ?_;refine ab [] (hs) ?_;exact aq
theorem Kx (p:Src) (hp:AW p) (h:nw p=some true) (ls:List (List S)) (hb:DG p ls):GF Tryz.prog 129 [.agg (av p)] [] (.v (.bool (ls.all fun l=>eh l 1))) []:=by
 have hs:=AB p hp true h;have hf:=Mu p hp ls hb;generalize (ls.all fun l=>eh l 1)=b at *;refine aj Tryz.func129 Tryz.ntmps129 ?_;refine ab [] (hs) ?_;refine ab [] (hf) ?_;exact aq
end Go.Xg
namespace Go.Xg
open Go.RowKit Go.Xw Go.Proofs
open Go.Xp (Tok Nd T levels Ar E S er wt bC eM eh)
open Go.Sp
open Go.Im
attribute [local irreducible] GW GL GO YG GC GA aW aZ
theorem Sm {p:Src} (hw:dN p<=1048576):AW p:=by
 obtain ⟨⟨a1,a2⟩,⟨b1,b2⟩,⟨c1,c2⟩,⟨d1,d2⟩⟩:=eJ p;exact ⟨⟨by omega,fun s hs=>by have:=a2 s hs;omega⟩,⟨by omega,fun s hs=>by have:=b2 s hs;omega⟩,⟨by omega,fun f hf=>by obtain ⟨e1,e2,e3⟩:=c2 f hf;exact ⟨by omega,by omega,fun s hs=>by have:=e3 s hs;omega⟩⟩,⟨by omega,fun n hn=>by obtain ⟨e1,e2⟩:=d2 n hn;exact ⟨by omega,by omega⟩⟩⟩
theorem Ku (p:Src) (hw:dN p<=1048576):GF Tryz.prog 129 [.agg (av p)] [] (.v (.bool (fI p))) []:=by
 have iD:=Sm hw;obtain ⟨b,hb⟩:=Kc p
 cases b with
 | false=>rw [Xr hb];exact Ks p iD hb
 | true =>
  obtain ⟨l,hl⟩:=Sq hb;obtain ⟨ls,hf⟩:=hl.Jd;rw [Xs hl hf];exact Kx p iD hb ls (KP hl hf hw)
end Go.Xg
namespace Go.Xg
open Go.RowKit Go.Xw Go.Proofs
open Go.Xp (Tok Nd T)
open Go.Sp (Src)
open Go.Im (nF pE tr ir cP fG tP)
attribute [local irreducible] GW GL GO YG GC GA aW aZ
mutual
def tT:T->GV
 | .mk n l=>.box [.v (ii n.kind),.v (ii n.at_),.v (ii n.n),.v (sv n.s),ints n.kids,.sl 1 (bX l)] 0
def bX:List T->List (List GV)
 | []=>[]
 | t::r=>[tT t]::bX r
end
abbrev uT (t:T):GV:=.box [.v (ii t.n.kind),.v (ii t.n.at_),.v (ii t.n.n),.v (sv t.n.s),ints t.n.kids,.sl 1 (bX t.kids)] 0
theorem Ws (t:T):tT t=uT t:=by cases t;rw [tT];rfl
theorem jO (l:List T):bX l=l.map fun t=>[uT t]:=by
 induction l with
 | nil=>rfl
 | cons t l ih=>rw [bX,ih,Ws];rfl
theorem qj (l:List T):(bX l).length=l.length:=by rw [jO];simp
theorem IA (l:List T) (t:T):bX (l++[t])=bX l++[[uT t]]:=by rw [jO,jO];simp
theorem uO {l:List T} {i:Nat} {t:T} (h:l[i]?=some t):(bX l)[i]?=some [uT t]:=by rw [jO,getElem?_map,h];rfl
def trG:Option (T × Nat)->GV
 | none=>.tup [.U,.U,.v (.bool false)]
 | some (t,e)=>.tup [uT t,.v (ii (e:Nat)),.v (.bool true)]
theorem PT (nodes:List Nd) (hl:nodes.length<=1099511627776) (hk:∀ n∈nodes,n.kids.length<=1099511627776):∀ (f a:Nat),nodes.length - a+1<=f->a<=1099511627776 ->
  GF Tryz.prog 193 [.sl 5 (nodes.map ay),.v (ii (a:Nat))] [] (trG (nF nodes f a)) []:=by
 intro f
 induction f with
 | zero=>intro a h;omega
 | succ f ih =>
 intro a hf ha;rw [nF]
 cases hn:nodes[a]? with
 | none =>
  have kQ:nodes.length<=a:=List.getElem?_eq_none_iff.1 hn
  have hd:decide (((nodes.map ay).length:Int)<=(a:Int))=true:=by simpa using kQ
  refine aj Tryz.func193 Tryz.ntmps193 ?_;refine qn ?_;exact ⟨_,iM,rfl,rfl⟩
 | some n =>
  have ar:=(List.getElem?_eq_some_iff.1 hn).1
  have hd:decide (((nodes.map ay).length:Int)<=(a:Int))=false:=by simpa using ar
  have hr:(nodes.map ay)[a]?=some (ay n):=by rw [getElem?_map,hn];rfl
  have sk:=hk n (mem_of_getElem? hn);simp only;generalize hR:pE (nF nodes f) n.kids (a+1) []=R;refine aj Tryz.func193 Tryz.ntmps193 ?_;refine GW.wk (Wk.JR (i:=0) (o:=5) 152 1 rfl rfl) ?_
  refine GW.range (n.kids.map fun i=>[GV.v (ii i)]).length (fun k fr Γ=>∃ next acc m rows,fr=[.sl 5 (nodes.map ay),.v (ii (a:Nat)),.U,.U,.U,.U,.U,.loc 0 0,.v (ii (next:Nat)),.U,.U,.U,.U,.U,.U,.U,.U,.U,.U,.U,.U,.U,.U,.U,.U,.U,.U,.U,.U,.U,ints n.kids,.v (ii ((n.kids.map fun i=>[GV.v (ii i)]).length:Int)),.v (ii (k:Nat)),.U,.U,.U,.U,.U,.U,.U,.U,.U,.U,.U,.U,.U,.U,.U,.U,.U,.U,.U,.U,.U,.U,.U,.U,.U,.U,.U,.U,.U,.U,.U,.U,.U,.U,.U] /\
   Γ=[.box 190 [.v (ii n.kind),.v (ii n.at_),.v (ii n.n),.v (sv n.s),ints n.kids,.vec 1 m],.vec 152 1 0 rows]/\rows.length=m/\rows=bX acc/\m=k/\a+1<=next/\next<=nodes.length/\pE (nF nodes f) (n.kids.drop k) next acc=R) ?_ (by simpa using sk) ?_ ?_ ?_
  ·exact ⟨_,_,Wk.ax ao,a+1,[],0,[],rfl,rfl,rfl,rfl,rfl,Nat.le_refl _,ar,hR⟩
  ·rintro k _ _ ⟨next,acc,m,rows,rfl,rfl,_⟩;exact ⟨rfl,rfl,rfl⟩
  ·rintro k _ _ eW ⟨next,acc,m,rows,rfl,rfl,hm,bs,sj,HK,qN,h⟩
   have eW:k < n.kids.length:=by simpa using eW
   have cQ:n.kids[k]?=some n.kids[k]:=by simp [eW]
   have sf:(n.kids.map fun i=>[GV.v (ii i)])[k]?=some [.v (ii n.kids[k])]:=by rw [getElem?_map,cQ];rfl
   rw [drop_eq_getElem_cons eW,pE] at h;generalize n.kids[k]=z at *
   by_cases hz:z=(next:Int)
   ·rw [if_pos hz] at h;subst hz
    have W2:((next:Int) != (next:Int))=false:=by simp
    have CG:=ih next ah ah
    cases hq:nF nodes f next with
    | none =>
     rw [hq] at h CG;subst h;refine ae ?_;refine ab [] (CG) ?_;refine qn ?_;exact ⟨_,iM,rfl,rfl⟩
    | some x =>
     obtain ⟨t,e⟩:=x;rw [hq] at h CG;simp only at h
     obtain ⟨s1,s2,_,_⟩:=Go.Im.zK f next t e hq
     refine ae ?_;refine ab [] (CG) ?_;refine dY ?_;refine ae ?_;exact ⟨rfl,rfl,_,_,Wk.ax ao,e,acc++[t],_,_,rfl,rfl,by simp [hm],by rw [IA,bs],by omega,by omega,s2,h⟩
   ·rw [if_neg hz] at h;subst h
    have W2:(z != (next:Int))=true:=by simpa using hz
    refine ae ?_;refine qn ?_;exact ⟨_,iM,rfl,rfl⟩
  ·rintro _ _ ⟨next,acc,m,rows,rfl,rfl,hm,bs,sj,HK,qN,h⟩;rw [show n.kids.drop (n.kids.map fun i=>[GV.v (ii i)]).length=[] by simp,pE] at h;subst h;simp only;subst bs;refine aK ?_;refine GW.wk (Wk.yb (i:=0) (o:=5) (j:=1) rfl rfl rfl rfl hm) ?_
   by_cases h0:n.at_ < 0
   ·rw [if_pos h0]
    have r8:decide ((0:Int)<=n.at_)=false:=by simpa using h0
    refine ae ?_;refine aE (aH [0,1,2,3,4,5,6,7,8,9,10] .nil) ?_;refine ak ?_;refine ae ?_;rw [r8];refine GW.wk (Wk.freeze (i:=0) rfl rfl rfl (Nat.le_refl _)) ?_;refine qn ?_;exact ⟨_,iM,rfl,rfl⟩
   ·rw [if_neg h0]
    have r8:decide ((0:Int)<=n.at_)=true:=by simpa using h0
    refine ae ?_;refine aE (aH [0,1,2,3,4,5,6,7,8,9,10] .nil) ?_;refine ak ?_;refine ae ?_;rw [r8];refine GW.wk (Wk.freeze (i:=0) rfl rfl rfl (Nat.le_refl _)) ?_;refine II ?_;exact ⟨rfl,rfl⟩
def Bg (nodes:List Nd):Option (List T × Nat)->GV
 | none=>.tup [.U,.v (.bool false)]
 | some (l,e)=>.tup [.sl 1 (bX l),.v (.bool ((e:Int)==(nodes.length:Int)))]
theorem vb (p:Src) (hl:p.nodes.length<=1099511627776) (hk:∀ n∈p.nodes,n.kids.length<=1099511627776) (hf:p.fns.length<=1099511627776) :
  GF Tryz.prog 155 [.agg (av p)] [] (Bg p.nodes (ir p.nodes p.fns 0 [])) []:=by
 generalize hR:ir p.nodes p.fns 0 []=R;refine aj Tryz.func155 Tryz.ntmps155 ?_;refine GW.wk (Wk.BQ (t:=4) (a:=none) (c:=0) 152 1 rfl) ?_
 refine GW.range (p.fns.map au).length (fun k fr Γ=>∃ next acc m rows,fr=[.U,.loc 0 0,.U,.U,.vec 1 m,.v (ii (next:Nat)),.U,.U,.U,.U,.U,.U,.sl 3 (p.fns.map au),.v (ii ((p.fns.map au).length:Int)),.v (ii (k:Nat)),.U,.U,.U,.U,.U,.U,.U,.U,.U,.U,.U,.U,.U,.U,.U,.U,.U,.U,.U,.U,.U,.U,.U,.U,.U,.U,.U,.U,.U,.U,.U] /\
  Γ=[.box 34 (av p),.vec 152 1 0 rows]/\rows.length=m/\rows=bX acc/\m=k/\next<=p.nodes.length/\ir p.nodes (p.fns.drop k) next acc=R) ?_ (by simpa using hf) ?_ ?_ ?_
 ·exact ⟨_,_,Wk.ax ao,0,[],0,[],rfl,rfl,rfl,rfl,rfl,Nat.zero_le _,hR⟩
 ·rintro k _ _ ⟨next,acc,m,rows,rfl,rfl,_⟩;exact ⟨rfl,rfl,rfl⟩
 ·rintro k _ _ eW ⟨next,acc,m,rows,rfl,rfl,hm,bs,sj,qN,h⟩
  have eW:k < p.fns.length:=by simpa using eW
  have cQ:p.fns[k]?=some p.fns[k]:=by simp [eW]
  have sf:(p.fns.map au)[k]?=some (au p.fns[k]):=by rw [getElem?_map,cQ];rfl
  rw [drop_eq_getElem_cons eW,ir] at h;generalize p.fns[k]=fn at *
  have Me:=PT p.nodes hl hk (p.nodes.length+1) next ah ah
  unfold tr at h
  cases hq:nF p.nodes (p.nodes.length+1) next with
  | none =>
   rw [hq] at h Me;subst h;refine ae ?_;refine ab [] (Me) ?_;refine F5 ?_;exact ⟨_,iM,rfl,rfl⟩
  | some x =>
   obtain ⟨t,e⟩:=x;rw [hq] at h Me;simp only at h
   obtain ⟨s1,s2,_,_⟩:=Go.Im.zK _ next t e hq
   by_cases hb:fn.body=(next:Int)
   ·rw [if_pos hb] at h
    have bj:(fn.body != (next:Int))=false:=by simpa using hb
    refine ae ?_;refine ab [] (Me) ?_;refine dY ?_;refine ae ?_;exact ⟨rfl,rfl,_,_,(Wk.cut (n:=2) (Nat.zero_le _) rfl).trans (Wk.ax ao),e,acc++[t],_,_,rfl,rfl,by simp [hm],by rw [IA,bs],by omega,s2,h⟩
   ·rw [if_neg hb] at h;subst h
    have bj:(fn.body != (next:Int))=true:=by simpa using hb
    refine ae ?_;refine ab [] (Me) ?_;refine F5 ?_;exact ⟨_,iM,rfl,rfl⟩
 ·rintro _ _ ⟨next,acc,m,rows,rfl,rfl,hm,bs,sj,qN,h⟩;rw [show p.fns.drop (p.fns.map au).length=[] by simp,ir] at h;subst h;subst bs;refine aK ?_;refine GW.wk (Wk.iv (t:=4) rfl rfl rfl hm) ?_
  have TP:p.nodes.length=(p.nodes.map ay).length:=by simp
  unfold Bg;rw [TP];refine ae ?_;refine aE (aH [0,1,2,3,4,5,6,7] .nil) ?_;refine ak ?_;exact qm
end Go.Xg
namespace Go.Xg
open Go.RowKit Go.Xw Go.Proofs
open Go.Xp (Tok Nd T bd one levels fX dE dW df cY)
open Go.Sp
attribute [local irreducible] GW GL GO YG GC GA aW aZ
structure PX where
 a:Value
 b:Value
 c:Value
 d:Value
 e:Value
abbrev bF (p:RS) (x:PX):Ob:=.box 208 [ia p.l,.v (ii p.i),.v (ii p.e),.v (ii p.code),.v (ii p.at_),.v x.a,.v x.b,.v x.c,.v x.d,.v x.e]
theorem qB (p:RS) (k:Nat) (x:PX) (hp:p.ok) (hk:k<=1):GF Tryz.prog 241 [.loc 0 0,.v (ii (k:Nat))] [bF p x] (.agg (cV (Go.Im.tok p k))) [bF p x]:=by
 obtain ⟨jX,dz⟩:=hp;unfold Go.Im.tok
 cases ht:p.l[p.i+k]? with
 | some t =>
  have hr:=jM ht;have ar:p.i+k < p.l.length:=(List.getElem?_eq_some_iff.1 ht).1
  have hd:decide (((p.l.map cV).length:Int)<=((p.i+k:Nat):Int))=false:=by simpa using by omega
  refine aj Tryz.func241 Tryz.ntmps241 ?_;refine aE (aH [0,1,2,3,4,5,6,7,8,9,10,11] .nil) ?_;refine ak ?_;refine ae ?_;refine aE (aH [0,1,2,3,4,5,6,7,8,9,10,11] (.a 12 .nil)) ?_;refine ak ?_;exact oz
 | none =>
  have ar:p.l.length<=p.i+k:=List.getElem?_eq_none_iff.1 ht
  have hd:decide (((p.l.map cV).length:Int)<=((p.i+k:Nat):Int))=true:=by simpa using by omega
  refine aj Tryz.func241 Tryz.ntmps241 ?_;refine aE (aH [0,1,2,3,4,5,6,7,8,9,10,11] .nil) ?_;refine ak ?_;exact oz
theorem D5 (p:RS) (c a:Int) (x:PX):GF Tryz.prog 270 [.loc 0 0,.v (ii c),.v (ii a)] [bF p x] (.tup []) [bF (p.fail c a) x]:=by
 unfold RS.fail
 by_cases h:p.code=0
 ·have h':(p.code==0)=true:=by simpa using h
  rw [if_pos h];refine aj Tryz.func270 Tryz.ntmps270 ?_;exact fO
 ·have h':(p.code==0)=false:=by simpa using h
  rw [if_neg h];refine aj Tryz.func270 Tryz.ntmps270 ?_;exact fO
theorem yf (p:RS) (x:PX) (hp:p.ok):GF Tryz.prog 242 [.loc 0 0] [bF p x] (.tup []) [bF (Go.Im.jB p) x]:=by
 have ht:=qB p 0 x hp (by decide);unfold Go.Im.jB;generalize Go.Im.tok p 0=t at *;have hf:=D5 p 7 t.at_ x;refine aj Tryz.func242 Tryz.ntmps242 ?_;refine ab [0] (ht) ?_;refine ab [0] (hf) ?_;exact fO
theorem vh (p:RS) (d:Nat) (x:PX) (hp:p.ok):GF Tryz.prog 272 [.loc 0 0,.v (ii (d:Nat))] [bF p x] (.v (.bool ((Go.Im.bG p d).code==0))) [bF (Go.Im.bG p d) x]:=by
 have ht:=qB p 0 x hp (by decide);unfold Go.Im.bG;generalize Go.Im.tok p 0=t at *
 by_cases h:d > 60
 ·have h':decide ((60:Int) < (d:Int))=true:=by simpa using by omega
  rw [if_pos h];have hf:=D5 p 9 t.at_ x;generalize p.fail 9 t.at_=q at *;refine aj Tryz.func272 Tryz.ntmps272 ?_;refine ab [0] (ht) ?_;refine ab [0] (hf) ?_;exact aq
 ·have h':decide ((60:Int) < (d:Int))=false:=by simpa using by omega
  rw [if_neg h];refine aj Tryz.func272 Tryz.ntmps272 ?_;exact aq
theorem jq (p:RS) (k:Nat) (s:ai) (x:PX) (hp:p.ok) (hk:k<=1):GF Tryz.prog 239 [.loc 0 0,.v (ii (k:Nat)),.v (sv s)] [bF p x] (.v (.bool (Go.Im.is p k s))) [bF p x]:=by
 have ht:=qB p k x hp hk;unfold Go.Im.is;generalize Go.Im.tok p k=t at *
 cases h:(t.kind==3) with
 | true =>
  rw [Bool.true_and];refine aj Tryz.func239 Tryz.ntmps239 ?_;refine ab [0] (ht) ?_;exact aq
 | false =>
  rw [Bool.false_and];refine aj Tryz.func239 Tryz.ntmps239 ?_;refine ab [0] (ht) ?_;exact aq
theorem qd (p:RS) (x:PX) (hp:p.ok):GF Tryz.prog 240 [.loc 0 0] [bF p x] (.v (sv (Go.Im.tok p 0).s)) [bF (Go.Im.bg p) x]:=by
 have ht:=qB p 0 x hp (by decide);have hw:=yf p x hp;have TW:=hp.2;have CK:=hp.1;unfold Go.Im.bg;generalize Go.Im.tok p 0=t at *;have hf:=D5 p 8 t.at_ x
 by_cases hc:p.code=0
 ·have de:(p.code != 0)=false:=by simpa using hc
  rw [if_pos hc]
  by_cases h2:t.kind=2
  ·have pK:(t.kind != 2)=false:=by simpa using h2
   rw [if_pos h2]
   by_cases hl:t.s.length > 12
   ·have iV:decide ((12:Int) < (t.s.length:Int))=true:=by simpa using by omega
    rw [if_pos hl];refine aj Tryz.func240 Tryz.ntmps240 ?_;refine ab [0] (ht) ?_;refine ab [0] (hf) ?_;exact aq
   ·have iV:decide ((12:Int) < (t.s.length:Int))=false:=by simpa using by omega
    rw [if_neg hl];refine aj Tryz.func240 Tryz.ntmps240 ?_;refine ab [0] (ht) ?_;exact aq
  ·have pK:(t.kind != 2)=true:=by simpa using h2
   rw [if_neg h2];refine aj Tryz.func240 Tryz.ntmps240 ?_;refine ab [0] (ht) ?_;refine ab [0] (hw) ?_;exact aq
 ·have de:(p.code != 0)=true:=by simpa using hc
  rw [if_neg hc];refine aj Tryz.func240 Tryz.ntmps240 ?_;refine ab [0] (ht) ?_;exact aq
theorem eF (p:RS) (s:ai) (x:PX) (hp:p.ok):GF Tryz.prog 243 [.loc 0 0,.sl 1 [[.v (sv s)]]] [bF p x] (.tup []) [bF (Go.Im.want p s) x]:=by
 have hi:=jq p 0 s x hp (by decide);have hw:=yf p x hp;have TW:=hp.2;have CK:=hp.1;unfold Go.Im.want;generalize Go.Im.jB p=q at *;have hr:([[GV.v (sv s)]]:List (List GV))[0]?=some [.v (sv s)]:=rfl;refine aj Tryz.func243 Tryz.ntmps243 ?_
 by_cases hc:p.code=0
 ·have de:(p.code != 0)=false:=by simpa using hc
  rw [if_pos hc]
  cases h:Go.Im.is p 0 s with
  | true =>
   rw [h] at hi;rw [if_pos rfl];refine GW.range 1 (fun k fr Γ=>fr=[.loc 0 0,.U,.U,.U,.U,.U,.sl 1 [[.v (sv s)]],.v (ii ((1:Nat):Int)),.v (ii (k:Nat)),.U,.U,.U,.U,.U,.U,.U,.U,.U,.U,.U,.U,.U,.U,.U,.U,.U,.U,.U,.U,.U,.U]/\((k=0/\Γ=[bF p x])\/(1<=k/\Γ=[bF p.next x]))) ?_ (by decide) ?_ ?_ ?_
   ·exact ⟨_,_,Wk.ax ao,rfl,.inl ⟨rfl,rfl⟩⟩
   ·rintro k _ _ ⟨rfl,_⟩;exact ⟨rfl,rfl,rfl⟩
   ·rintro k _ _ hk ⟨rfl,⟨rfl,rfl⟩ | ⟨h1,_⟩⟩
    ·refine ae ?_;refine ab [0] (hi) ?_;exact ⟨rfl,rfl,_,_,Wk.ax ao,rfl,.inr ⟨Nat.le_refl _,rfl⟩⟩
    ·omega
   ·rintro _ _ ⟨rfl,⟨h1,_⟩ | ⟨_,rfl⟩⟩
    ·cases h1
    ·exact lI
  | false =>
   rw [h] at hi;rw [if_neg (by decide)];refine GW.range 1 (fun k fr Γ=>fr=[.loc 0 0,.U,.U,.U,.U,.U,.sl 1 [[.v (sv s)]],.v (ii ((1:Nat):Int)),.v (ii (k:Nat)),.U,.U,.U,.U,.U,.U,.U,.U,.U,.U,.U,.U,.U,.U,.U,.U,.U,.U,.U,.U,.U,.U]/\k=0/\Γ=[bF p x]) ?_ (by decide) ?_ ?_ ?_
   ·exact ⟨_,_,Wk.ax ao,rfl,rfl,rfl⟩
   ·rintro k _ _ ⟨rfl,_⟩;exact ⟨rfl,rfl,rfl⟩
   ·rintro k _ _ hk ⟨rfl,rfl,rfl⟩;refine ae ?_;refine ab [0] (hi) ?_;refine ab [0] (hw) ?_;exact fO
   ·rintro _ _ ⟨rfl,h1,_⟩;cases h1
 ·have de:(p.code != 0)=true:=by simpa using hc
  rw [if_neg hc];refine GW.range 1 (fun k fr Γ=>fr=[.loc 0 0,.U,.U,.U,.U,.U,.sl 1 [[.v (sv s)]],.v (ii ((1:Nat):Int)),.v (ii (k:Nat)),.U,.U,.U,.U,.U,.U,.U,.U,.U,.U,.U,.U,.U,.U,.U,.U,.U,.U,.U,.U,.U,.U]/\k=0/\Γ=[bF p x]) ?_ (by decide) ?_ ?_ ?_
  ·exact ⟨_,_,Wk.ax ao,rfl,rfl,rfl⟩
  ·rintro k _ _ ⟨rfl,_⟩;exact ⟨rfl,rfl,rfl⟩
  ·rintro k _ _ hk ⟨rfl,rfl,rfl⟩;exact lI
  ·rintro _ _ ⟨rfl,h1,_⟩;cases h1
end Go.Xg
namespace Go.Xg
open Go.RowKit Go.Xw Go.Proofs
open Go.Xp (Tok Nd T bd one levels)
open Go.Sp
attribute [local irreducible] GW GL GO YG GC GA aW aZ
mutual
def pT:T->GV
 | .mk n l=>.box [.v (ii n.kind),.v (ii n.at_),.v (ii n.n),.v (sv n.s),.v (.slice none 0 0),.sl 1 (jF l)] 0
def jF:List T->List (List GV)
 | []=>[]
 | t::r=>[pT t]::jF r
end
abbrev qT (t:T):GV:=.box [.v (ii t.n.kind),.v (ii t.n.at_),.v (ii t.n.n),.v (sv t.n.s),.v (.slice none 0 0),.sl 1 (jF t.kids)] 0
theorem Wn (t:T):pT t=qT t:=by cases t;rw [pT];rfl
theorem fU (l:List T):jF l=l.map fun t=>[qT t]:=by
 induction l with
 | nil=>rfl
 | cons t l ih=>rw [jF,ih,Wn];rfl
theorem l0 (l:List T):(jF l).length=l.length:=by rw [fU];simp
theorem uL (l:List T) (t:T):jF (l++[t])=jF l++[[qT t]]:=by rw [fU,fU];simp
theorem AP {l:List T} {i:Nat} {t:T} (h:l[i]?=some t):(jF l)[i]?=some [qT t]:=by rw [fU,getElem?_map,h];rfl
theorem MO (k a:Int) (s:ai) (rows:List (List GV)):GF Tryz.prog 271 [.v (ii k),.v (ii a),.v (sv s),.sl 1 rows] [] (.loc 0 0) [.box 190 [.v (ii k),.v (ii a),.v (ii 0),.v (sv s),.v (.slice none 0 0),.sl 1 rows]]:=by
 refine aj Tryz.func271 Tryz.ntmps271 ?_;refine GW.wk (Wk.cells 0 rfl (ds:=[.v (ii k),.v (ii a),.v (ii 0),.v (sv s),.v (.slice none 0 0),.sl 1 rows]) iM) ?_;refine GW.ret ?_;refine o7 (n:=1) rfl (by first | exact .inr rfl | exact .inl rfl) rfl (Nat.zero_le _) rfl rfl ?_;exact ⟨rfl,rfl⟩
theorem ei (k a:Int) (s:ai) (l:List T) (rows:List (List GV)) (h:jF l=rows):GF Tryz.prog 271 [.v (ii k),.v (ii a),.v (sv s),.sl 1 rows] [] (qT (one k a s l)) []:=by
 subst h;refine aj Tryz.func271 Tryz.ntmps271 ?_;refine GW.wk (Wk.cells 0 rfl (ds:=[.v (ii k),.v (ii a),.v (ii 0),.v (sv s),.v (.slice none 0 0),.sl 1 (jF l)]) iM) ?_;refine GW.wk (Wk.freeze (i:=0) rfl rfl rfl (Nat.zero_le _)) ?_;exact aq
theorem sx:GF Tryz.prog 233 [] [] (.sl 1 (levels.map fun l=>[strs l])) []:=by
 refine aj Tryz.func233 Tryz.ntmps233 ?_
 iterate 10 (refine bE ?_)
 exact aw
end Go.Xg
namespace Go.Xg
open Go.RowKit Go.Xw Go.Proofs
open Go.Xp (Tok Nd T levels cm bx aO az)
open Go.Im (nr qU sU kL cI fo sJ jg fE ow pn)
attribute [local irreducible] GW GL GO YG GC GA aW aZ
theorem decDigits_eq (n:Nat):Go.Lib.decDigits n=cm n:=by
 induction n using Nat.strongRecOn with
 | _ n ih =>
  unfold Go.Lib.decDigits cm;split
  ·rfl
  ·rw [ih (n / 10) ah]
theorem RM (n:Int):Go.Lib.itoa n=nr n:=by
 unfold Go.Lib.itoa nr;rw [decDigits_eq,decDigits_eq]
theorem Ky (n:Int) (h0 : -9223372036854775808<=n) (h1:n<=9223372036854775807):GF Tryz.prog 195 [.v (ii n)] [] (.v (sv (nr n))) []:=by
 refine GF.Ux (vs:=[ii n]) fun K β w ht hf=>?_
 obtain ⟨E,z,kJ⟩:=rR.all ht hf ht.pow (zs:=uM.map fun z=>Value.int .u64 z) (by decide) (fun m o x hx=>by
  rw [getElem?_map] at hx;unfold wA;rw [if_neg (by decide),if_pos rfl]
  cases hs:uM[o]? with
  | none=>rw [hs] at hx;cases hx
  | some y=>rw [hs] at hx;cases hx;rfl)
 have zo:Go.Lib.TabIs Tryz.prog w "internal/strconv.uint64pow10" .u64 Go.Lib.pow10Tab:=by
  unfold Go.Lib.TabIs World.var?;rw [show Tryz.prog.globalNamed "internal/strconv.uint64pow10" = some 3 by kernel_rfl,show Go.Lib.pow10Tab=uM by decide];simp only [Option.bind_some,kJ]
 refine lL.oO (Calls.mono (Tryz.strconv_Itoa n h0 h1 w zo) ?_);rintro e w' ⟨h2,k,os,h3⟩;refine ⟨_,h2,by rw [RM];rfl,?_⟩;subst h3;refine ⟨rfl,rfl,rfl,by simp [Go.Sort.grow,World.drewN],fun j hj _=>?_⟩;simp only [Go.Sort.grow,World.drewN];rw [Array.getElem?_append_left hj]
theorem Pf (l:List ai) (s:ai) (hl:l.length<=1099511627776):GF Tryz.prog 234 [strs l,.box [.v (sv s)] 0] [] (.v (.bool (l.contains s))) []:=by
 have h:=jP l s hl;generalize l.contains s=b at *;refine aj Tryz.func234 Tryz.ntmps234 ?_;refine ab [] (h) ?_;exact aq
def BJ (ls:List (List ai)) (s:ai):Int:=match ls.findIdx? (fun l=>l.contains s) with | some i=>(i:Int) | none => -1
theorem Gk (ls:List (List ai)) (s:ai) (hn:ls.length<=1099511627776) (hl:∀ l∈ls,l.length<=1099511627776) :
  GF Tryz.prog 232 [.sl 1 (ls.map fun l=>[strs l]),.fn (.func 234) [] [.box [.v (sv s)] 0]] [] (.v (ii (BJ ls s))) []:=by
 have eu:(ls.map fun l=>[strs l]).length=ls.length:=by simp
 refine aj Tryz.func232 Tryz.ntmps232 ?_;refine GW.range (ls.map fun l=>[strs l]).length (fun k fr Γ=>fr=[.sl 1 (ls.map fun l=>[strs l]),.fn (.func 234) [] [.box [.v (sv s)] 0],.U,.U,.U,.U,.U,.v (ii ((ls.map fun l=>[strs l]).length:Int)),.v (ii (k:Nat)),.U,.U,.U,.U,.U,.U,.U,.U,.U,.U]/\Γ=[]/\(ls.take k).all (fun l=>!(l.contains s))=true) ?_ ah ?_ ?_ ?_
 ·exact ⟨_,_,Wk.ax ao,rfl,rfl,rfl⟩
 ·rintro k _ _ ⟨rfl,rfl,_⟩;exact ⟨rfl,rfl,rfl⟩
 ·rintro k _ _ ar ⟨rfl,rfl,aR⟩;rw [eu] at ar
  have cQ:ls[k]?=some ls[k]:=by simp [ar]
  have hr:(ls.map fun l=>[strs l])[k]?=some [strs ls[k]]:=by rw [getElem?_map,cQ];rfl
  have hc:=Pf ls[k] s (hl _ (getElem_mem ar))
  have bt:(ls.take (k+1)).all (fun l=>!(l.contains s))=((ls.take k).all (fun l=>!(l.contains s))&&!(ls[k].contains s)):=by rw [take_add_one,cQ,all_append];simp
  have yC:ls[k].contains s=true->BJ ls s=(k:Int):=fun h0=>by
   have:ls.findIdx? (fun l=>l.contains s)=some k:=by
    rw [List.findIdx?_eq_some_iff_getElem];refine ⟨ar,h0,fun j hj=>?_⟩;rw [all_eq_true] at aR;have:=aR ls[j] (by rw [List.mem_take_iff_getElem];exact ⟨j,by omega,rfl⟩);simpa using this
   unfold BJ;rw [this]
  generalize ls[k]=l at *
  cases hb:l.contains s with
  | true =>
   rw [hb] at hc;rw [yC hb];refine ae ?_;refine na [] (hc) ?_;exact aw
  | false =>
   rw [hb] at hc bt;refine ae ?_;refine na [] (hc) ?_;refine ae ?_;exact ⟨rfl,rfl,_,_,Wk.ax ao,rfl,rfl,by rw [bt,aR];rfl⟩
 ·rintro _ _ ⟨rfl,rfl,aR⟩;rw [eu,take_length] at aR
  have:ls.findIdx? (fun l=>l.contains s)=none:=by
   rw [List.findIdx?_eq_none_iff];intro x hx;rw [all_eq_true] at aR;simpa using aR x hx
  unfold BJ;rw [this];exact aw
theorem CX (s:ai):GF Tryz.prog 200 [.v (sv s)] [] (.v (ii (qU s))) []:=by
 have h1:=sx;have h2:=Gk levels s (by decide) (by decide);rw [show qU s=BJ levels s from rfl];generalize BJ levels s=z at *;generalize levels=ls at *;refine aj Tryz.func200 Tryz.ntmps200 ?_;refine GL.wk (Wk.freeze (i:=0) rfl rfl rfl (Nat.le_refl _)) ?_;refine GN (by simp only [nK,mG];rfl) ?_;refine ab [] (h1) ?_;refine ab [] (h2) ?_;exact aq
end Go.Xg
namespace Go.Xg
open Go.RowKit Go.Xw Go.Proofs
open Go.Xp (Tok Nd T levels cm bx aO az)
open Go.Im (nr qU sU kL cI fo sJ jg fE ow pn fG tP cP)
attribute [local irreducible] GW GL GO YG GC GA aW aZ
theorem MC (t:T) (z:Int):GF Tryz.prog 201 [uT t,.v (ii z)] [] (.v (.bool (kL t z))) []:=by
 have h:=CX t.n.s;unfold kL
 cases hk:(t.n.kind==6) with
 | true =>
  generalize qU t.n.s=y at *;refine aj Tryz.func201 Tryz.ntmps201 ?_;refine ab [] (h) ?_;exact aq
 | false =>
  refine aj Tryz.func201 Tryz.ntmps201 ?_;exact aq
theorem tK (t:T) (b:Bool) (x:ai) (hx:x.length<=1099511627776) (h:GF Tryz.prog 160 [uT t] [] (.v (sv x)) []) :
  GF Tryz.prog 199 [uT t,.v (.bool b)] [] (.v (sv (sU b x))) []:=by
 unfold sU
 cases b with
 | true =>
  refine aj Tryz.func199 Tryz.ntmps199 ?_;refine ab [] (h) ?_;exact aq
 | false =>
  refine aj Tryz.func199 Tryz.ntmps199 ?_;refine ab [] (h) ?_;exact aq
theorem Ph (ex:FuncId) [hf:aD Tryz.prog ex] (tx:T->ai) (l:List T) (h:∀ t∈l,GF Tryz.prog ex [uT t] [] (.v (sv (tx t))) []) (hj:(bx (l.map tx)).length<=1099511627776) (hl:l.length<=1099511627776) :
  GF Tryz.prog 198 [.sl 1 (bX l),.v (.func (.func ex) #[] #[])] [] (.v (sv (bx (l.map tx)))) []:=by
 have oK:=qj l;have hJ:=Kz (l.map tx) hj (by simpa using hl);refine aj Tryz.func198 Tryz.ntmps198 ?_;refine GW.wk (Wk.BQ (t:=5) (a:=none) (c:=0) 9 1 rfl) ?_;refine GW.range (bX l).length (fun k fr Γ=>∃ m rows,fr=[.sl 1 (bX l),.v (.func (.func ex) #[] #[]),.U,.U,.U,.vec 0 m,.U,.U,.sl 1 (bX l),.v (ii ((bX l).length:Int)),.v (ii (k:Nat)),.U,.U,.U,.U,.U,.U,.U,.U,.U,.U,.U,.U]/\Γ=[.vec 9 1 0 rows]/\rows.length=m/\rows=((l.take k).map tx).map (fun s=>[GV.v (sv s)])/\m=k) ?_ ah ?_ ?_ ?_
 ·exact ⟨_,_,Wk.ax ao,0,[],rfl,rfl,rfl,rfl,rfl⟩
 ·rintro k _ _ ⟨m,rows,rfl,rfl,_⟩;exact ⟨rfl,rfl,rfl⟩
 ·rintro k _ _ ar ⟨m,rows,rfl,rfl,hm,bs,sj⟩;rw [oK] at ar
  have cQ:l[k]?=some l[k]:=by simp [ar]
  have hr:=uO cQ;have ht:=h l[k] (getElem_mem ar)
  have bt:((l.take (k+1)).map tx).map (fun s=>[GV.v (sv s)])=rows++[[.v (sv (tx l[k]))]]:=by rw [take_add_one,cQ,bs,map_append,map_append];rfl
  generalize l[k]=t at *;refine ae ?_;refine ig [] (ht) ?_;refine ae ?_;refine dY ?_;refine ae ?_;exact ⟨rfl,rfl,_,_,Wk.ax ao,_,_,rfl,rfl,by simp [hm],bt.symm,by omega⟩
 ·rintro _ _ ⟨m,rows,rfl,rfl,hm,bs,sj⟩;rw [oK,take_length] at bs;refine aK ?_;refine GW.wk (Wk.iv (t:=5) rfl rfl rfl hm) ?_;subst bs;refine ae ?_;refine ab [] (hJ) ?_;exact aq
theorem VT {t:T} (h:cP t.n.kind t.kids.length=true) (hk:t.n.kind=3\/t.n.kind=5):∃ a,t.kids=[a]:=by
 have:t.kids.length=1:=by
  unfold cP at h
  rcases hk with hk | hk <;> rw [hk] at h <;> simp at h <;> omega
 match hl:t.kids,this with
 | [a],_=>exact ⟨a,rfl⟩
theorem VU {t:T} (h:cP t.n.kind t.kids.length=true) (hk:t.n.kind=6):∃ a b,t.kids=[a,b]:=by
 have:t.kids.length=2:=by
  unfold cP at h;rw [hk] at h;simp at h;omega
 match hl:t.kids,this with
 | [a,b],_=>exact ⟨a,b,rfl⟩
theorem Sy:∀ (N:Nat) (t:T),aO t<=N->fG t=true->ow t->jg t<=1099511627776->GF Tryz.prog 160 [uT t] [] (.v (sv (cI t))) []:=by
 intro N
 induction N with
 | zero=>intro t h;rw [Go.Xp.dX] at h;omega
 | succ N ih =>
 intro t hN hk hn hw;have hlen:=Go.Im.uX _ t (Nat.le_refl _) hn;rw [Go.Xp.dX] at hN;rw [Go.Im.xi,Bool.and_eq_true,Go.Im.su,all_eq_true] at hk;rw [Go.Im.qg] at hn
 have jH:∀ a∈t.kids,GF Tryz.prog 160 [uT a] [] (.v (sv (cI a))) []/\(cI a).length<=1099511627776:=fun a ha=>by
  have h1:=Go.Im.sN ha;rw [Go.Im.od] at hw;have h3:=Go.Im.jd hn.2 ha
  have h2:aO a<=az t.kids:=by
   have:∀ (l:List T),a∈l->aO a<=az l:=by
    intro l
    induction l with
    | nil=>intro h;cases h
    | cons b l ih2 =>
     intro h;rw [az]
     rcases List.mem_cons.1 h with rfl | h
     ·omega
     ·have:=ih2 h;omega
   exact this _ ha
  have h4:=Go.Im.uX _ a (Nat.le_refl _) h3;exact ⟨ih a ah (hk.2 a ha) h3 ah,by omega⟩
 rw [Go.Im.Nh] at hlen |-;unfold sJ at hlen |-;have uw:=hk.1;have WM:=@VT t uw;have XP:=@VU t uw;have TO:=Ky t.n.n hn.1.1 hn.1.2;have HJ:=CX t.n.s
 have eW:t.kids.length<=1099511627776:=by
  have:=Go.Im.Pd t.kids;rw [Go.Im.od] at hw;omega
 have Dy:=fun hj=>Ph 160 cI t.kids (fun a ha=>(jH a ha).1) hj eW
 rw [<-Go.Im.B5] at Dy
 have tf:t.n.s.length<=1099511627776:=by rw [Go.Im.od] at hw;omega
 have Qz:(bx (fo t.kids)).length<=1099511627776:=by
  have h1:=Go.Im.zx (fo t.kids)
  have h2:((fo t.kids).map fun y=>y.length+2).sum<=fE t.kids:=by
   have:∀ (l:List T),pn l->((fo l).map fun y=>y.length+2).sum<=fE l:=by
    intro l
    induction l with
    | nil=>intro _;simp [fo]
    | cons a l ih2 =>
     intro h;rw [pn] at h;have h1:=Go.Im.uX _ a (Nat.le_refl _) h.1;have h2:=ih2 h.2;rw [fo,fE,List.map_cons,sum_cons];omega
   exact this _ hn.2
  rw [Go.Im.od] at hw;omega
 have Dy:=Dy Qz;clear Qz;unfold uT;generalize kU:t.n.kind=kd at *
 by_cases h1:kd=1
 ·subst h1
  have f1:((1:Int)==1)=true:=by decide
  rw [if_pos rfl];refine aj Tryz.func160 Tryz.ntmps160 ?_;refine ab [] (TO) ?_;exact aq
 rw [if_neg h1] at hlen |-
 have g1:(kd==1)=false:=by simpa using h1
 by_cases h3:kd=3
 ·subst h3
  have f1:((3:Int)==1)=false:=by decide
  have f3:((3:Int)==3)=true:=by decide
  rw [if_pos rfl] at hlen |-;obtain ⟨a,ha⟩:=WM (.inl rfl);rw [ha] at jH hlen |-;obtain ⟨c1,c2⟩:=jH a (List.mem_singleton.2 rfl)
  have hr:(bX [a])[0]?=some [uT a]:=by rw [jO];rfl
  simp only [fo,getD_cons_zero] at hlen |-;generalize bX [a]=rows at *;generalize cI a=x at *;refine aj Tryz.func160 Tryz.ntmps160 ?_;refine aE (aH [0,1,2,3,4,5,6,7,8,9,10,11] (.a 12 (.q 13 (.q 14 (.q 15 .nil))))) ?_;refine ak ?_;refine aC [] (c1) ?_;exact aw
 rw [if_neg h3] at hlen |-
 have g3:(kd==3)=false:=by simpa using h3
 by_cases h4:kd=4
 ·subst h4
  have f1:((4:Int)==1)=false:=by decide
  have f3:((4:Int)==3)=false:=by decide
  have f4:((4:Int)==4)=true:=by decide
  rw [if_pos rfl] at hlen |-;generalize bX t.kids=rows at *;generalize bx (fo t.kids)=x at *;simp only [length_append,length_cons,length_nil] at hlen;refine aj Tryz.func160 Tryz.ntmps160 ?_;refine aE (aH [0,1,2,3,4,5,6,7,8,9] (.a 10 (.q 11 (.q 12 (.q 13 .nil))))) ?_;refine ak ?_;refine aC [] (Dy) ?_;exact aw
 rw [if_neg h4] at hlen |-
 have g4:(kd==4)=false:=by simpa using h4
 by_cases h5:kd=5
 ·subst h5
  have f1:((5:Int)==1)=false:=by decide
  have f3:((5:Int)==3)=false:=by decide
  have f4:((5:Int)==4)=false:=by decide
  have f5:((5:Int)==5)=true:=by decide
  rw [if_pos rfl] at hlen |-;obtain ⟨a,ha⟩:=WM (.inr rfl);rw [ha] at jH hlen |-;obtain ⟨c1,c2⟩:=jH a (List.mem_singleton.2 rfl)
  have hr:(bX [a])[0]?=some [uT a]:=by rw [jO];rfl
  simp only [fo,getD_cons_zero] at hlen |-;have TB:=tK a (a.n.kind==6) (cI a) c2 c1;have mi:=Go.Im.xI (a.n.kind==6) (cI a);generalize bX [a]=rows at *;generalize ZT:sU (a.n.kind==6) (cI a)=x at *;refine aj Tryz.func160 Tryz.ntmps160 ?_;refine aE (aH [0,1,2,3,4,5,6,7,8,9,10,11,12,13,14,15,16,17,18,19,20,21,22] (.a 23 (.q 24 (.q 25 .nil)))) ?_;refine ak ?_;refine aC [] (TB) ?_;exact aw
 rw [if_neg h5] at hlen |-
 have g5:(kd==5)=false:=by simpa using h5
 by_cases h6:kd=6
 ·subst h6
  have f1:((6:Int)==1)=false:=by decide
  have f3:((6:Int)==3)=false:=by decide
  have f4:((6:Int)==4)=false:=by decide
  have f5:((6:Int)==5)=false:=by decide
  have f6:((6:Int)==6)=true:=by decide
  rw [if_pos rfl] at hlen |-;obtain ⟨a,b,ha⟩:=XP rfl;rw [ha] at jH hlen |-;obtain ⟨c1,c2⟩:=jH a (List.mem_cons_self);obtain ⟨d1,d2⟩:=jH b (List.mem_cons_of_mem _ List.mem_cons_self)
  have hr:(bX [a,b])[0]?=some [uT a]:=by rw [jO];rfl
  have fR:(bX [a,b])[1]?=some [uT b]:=by rw [jO];rfl
  simp only [fo,getD_cons_zero,getD_cons_succ] at hlen |-
  have aap : -1<=qU t.n.s/\qU t.n.s<=9:=by
   unfold qU
   cases hf:levels.findIdx? (fun l=>l.contains t.n.s) with
   | none=>simp
   | some i =>
    rw [List.findIdx?_eq_some_iff_getElem] at hf;have:=hf.1
    have h9:levels.length=9:=by decide
    simp only;omega
  generalize qU t.n.s=lv at *;have eX:=MC a lv;have ja:=MC b (lv+1);have TB:=tK a (kL a lv) (cI a) c2 c1;have XD:=tK b (kL b (lv+1)) (cI b) d2 d1;generalize bX [a,b]=rows at *;generalize ZT:sU (kL a lv) (cI a)=x at *;generalize hyy:sU (kL b (lv+1)) (cI b)=y at *;simp only [length_append,length_cons,length_nil] at hlen;refine aj Tryz.func160 Tryz.ntmps160 ?_;refine ab [] (HJ) ?_;refine aE (aH [0,1,2,3,4,5,6,7,8,9,10,11,12,13,17,18,19,20,21,24,25,26,27,28,29,30,31,32,33,34,35,36,37,38] (.a 14 (.a 15 (.q 16 (.q 22 (.q 23 (.a 39 (.a 40 (.q 41 (.q 42 .nil)))))))))) ?_;refine ak ?_;refine xD [] (eX) ?_;refine ak ?_;refine aC [] (TB) ?_;refine xD [] (ja) ?_;refine ak ?_;refine aC [] (XD) ?_;exact aw
 rw [if_neg h6]
 have g6:(kd==6)=false:=by simpa using h6
 refine aj Tryz.func160 Tryz.ntmps160 ?_;exact aq
end Go.Xg
set_option maxHeartbeats 2000000
namespace Go.Xg
open Go.RowKit Go.Xw Go.Proofs
open Go.Xp (Tok Nd T levels cm bx aO az)
open Go.Im
attribute [local irreducible] GW GL GO YG GC GA aW aZ
abbrev ik (f:FuncId):Value:=.func (.func f) #[] #[]
theorem OW (l:List ai) (d:Nat) (hb:(fg l d).length<=1099511627776) (hl:l.length<=1099511627776):GF Tryz.prog 161 [strs l,.v (ii (d:Nat))] [] (.v (sv (fg l d))) []:=by
 have eu:(l.map fun s=>[GV.v (sv s)]).length=l.length:=by simp
 have Eo:=rW l [123,32];unfold fg at hb |-;rw [length_append,Eo] at hb;refine aj Tryz.func161 Tryz.ntmps161 ?_;refine GW.range (l.map fun s=>[GV.v (sv s)]).length (fun k fr Γ=>fr=[strs l,.U,.U,.U,.U,.v (sv (re [123,32] (l.take k))),.U,.U,strs l,.v (ii ((l.map fun s=>[GV.v (sv s)]).length:Int)),.v (ii (k:Nat)),.U,.U,.U,.U,.U,.U,.U,.U,.U,.U]/\Γ=[]) ?_ ah ?_ ?_ ?_
 ·exact ⟨_,_,Wk.ax ao,rfl,rfl⟩
 ·rintro k _ _ ⟨rfl,rfl⟩;exact ⟨rfl,rfl,rfl⟩
 ·rintro k _ _ ar ⟨rfl,rfl⟩;rw [eu] at ar
  have cQ:l[k]?=some l[k]:=by simp [ar]
  have sf:(l.map fun s=>[GV.v (sv s)])[k]?=some [.v (sv l[k])]:=by rw [getElem?_map,cQ];rfl
  have h1:=rW (l.take (k+1)) [123,32];have h2:=Nb l (k+1)
  have hz:jJ (l.take (k+1))=jJ (l.take k)+(l[k].length+1):=by rw [take_add_one,cQ,FV];simp [jJ]
  have h3:=rW (l.take k) [123,32];rw [show l.take (k+1)=l.take k++[l[k]] by rw [take_add_one,cQ];rfl,KS] at |-;generalize l[k]=z at *;generalize re [123,32] (l.take k)=acc at *;simp only [length_cons,length_nil] at h3 hb
  have aai:acc.length+z.length+3<=1099511627777:=by omega
  refine ae ?_;exact ⟨rfl,rfl,_,_,Wk.ax ao,rfl,rfl⟩
 ·rintro _ _ ⟨rfl,rfl⟩;rw [eu,take_length];generalize re [123,32] l=acc at *;simp only [length_append,length_cons,length_nil] at Eo hb;exact aw
theorem V8 (ex bk:FuncId) [hf:aD Tryz.prog ex] (tx:T->ai) (t a:T) (k:Nat) (hk:t.kids[k]?=some a) (h:GF Tryz.prog ex [uT a] [] (.v (sv (tx a))) []) :
  GF Tryz.prog 265 [.v (ii (k:Nat)),.box [.v (ik ex),.v (ik bk)] 0,.box [uT t] 0] [] (.v (sv (tx a))) []:=by
 have hr:=uO hk;generalize tx a=x at *;refine aj Tryz.func265 Tryz.ntmps265 ?_;refine aE (aH [0,1,2,3,4,5,6,7,8] (.a 9 (.q 10 .nil))) ?_;refine ak ?_;refine xD [] (h) ?_;refine ak ?_;exact aw
end Go.Xg
namespace Go.Xg
open Go.RowKit Go.Xw Go.Proofs
open Go.Xp (Tok Nd T levels cm bx aO az)
open Go.Im
attribute [local irreducible] GW GL GO YG GC GA aW aZ
structure Wr (ex bk:FuncId) (tx:T->ai) (inl:List ai->Nat->ai):Prop where
 expr:∀ a,fG a=true->ow a->jg a<=1099511627776->GF Tryz.prog ex [uT a] [] (.v (sv (tx a))) []
 block:∀ l (d:Nat),(inl l d).length<=1099511627776->l.length<=1099511627776->d<=1099511627776->GF Tryz.prog bk [strs l,.v (ii (d:Nat))] [] (.v (sv (inl l d))) []
 mem:∀ l d s,s∈l->s.length<=(inl l d).length
theorem yn (ex bk:FuncId) [he:aD Tryz.prog ex] [hb:aD Tryz.prog bk] (tx:T->ai) (inl:List ai->Nat->ai) (W:Wr ex bk tx inl) (t:T) (d:Nat) (hd:d+1<=1099511627776) (hl:t.kids.length<=1099511627776) (hlen:(mh tx inl d t).length<=1099511627776)
  (h:∀ a∈t.kids,(jx tx inl (d+1) a).length<=1099511627776->GF Tryz.prog 231 [.agg [.v (ik ex),.v (ik bk)],uT a,.v (ii ((d+1:Nat):Int))] [] (.v (sv (jx tx inl (d+1) a))) []) :
  GF Tryz.prog 197 [.agg [.v (ik ex),.v (ik bk)],uT t,.v (ii (d:Nat))] [] (.v (sv (mh tx inl d t))) []:=by
 have oK:=qj t.kids;rw [KN,Iv] at hlen |-;have dq:=W.block (t.kids.map (jx tx inl (d+1))) d hlen (by simpa using hl) ah
 have hk:∀ a∈t.kids,GF Tryz.prog 231 [.agg [.v (ik ex),.v (ik bk)],uT a,.v (ii ((d+1:Nat):Int))] [] (.v (sv (jx tx inl (d+1) a))) []:=fun a ha =>
  h a ha (Nat.le_trans (W.mem _ d _ (List.mem_map.2 ⟨a,ha,rfl⟩)) hlen)
 generalize inl (t.kids.map (jx tx inl (d+1))) d=y at *;refine aj Tryz.func197 Tryz.ntmps197 ?_;refine GW.wk (Wk.BQ (t:=7) (a:=none) (c:=0) 9 1 rfl) ?_;refine GW.range (bX t.kids).length (fun k fr Γ=>∃ m rows,fr=[.U,.U,.v (ii (d:Nat)),.loc 0 0,.U,.U,.U,.vec 1 m,.U,.U,.U,.U,.U,.sl 1 (bX t.kids),.v (ii ((bX t.kids).length:Int)),.v (ii (k:Nat)),.U,.U,.U,.U,.U,.U,.U,.U,.U,.U,.U,.U,.U,.U,.U,.U,.U]/\Γ=[.box 192 [.v (ik ex),.v (ik bk)],.vec 9 1 0 rows]/\rows.length=m/\rows=((t.kids.take k).map (jx tx inl (d+1))).map (fun s=>[GV.v (sv s)])/\m=k) ?_ ah ?_ ?_ ?_
 ·exact ⟨_,_,Wk.ax ao,0,[],rfl,rfl,rfl,rfl,rfl⟩
 ·rintro k _ _ ⟨m,rows,rfl,rfl,_⟩;exact ⟨rfl,rfl,rfl⟩
 ·rintro k _ _ ar ⟨m,rows,rfl,rfl,hm,bs,sj⟩;rw [oK] at ar
  have cQ:t.kids[k]?=some t.kids[k]:=by simp [ar]
  have hr:=uO cQ;have ht:=hk t.kids[k] (getElem_mem ar)
  have bt:((t.kids.take (k+1)).map (jx tx inl (d+1))).map (fun s=>[GV.v (sv s)])=rows++[[.v (sv (jx tx inl (d+1) t.kids[k]))]]:=by rw [take_add_one,cQ,bs,map_append,map_append];rfl
  generalize t.kids[k]=xj at *;generalize jx tx inl (d+1) xj=z at *;refine ae ?_;refine ab [] (ht) ?_;refine dY ?_;refine ae ?_;exact ⟨rfl,rfl,_,_,Wk.ax ao,_,_,rfl,rfl,by simp [hm],bt.symm,by omega⟩
 ·rintro _ _ ⟨m,rows,rfl,rfl,hm,bs,sj⟩;rw [oK,take_length] at bs;refine aK ?_;refine GW.wk (Wk.iv (t:=7) rfl rfl rfl hm) ?_;subst bs;refine ae ?_;refine ig [] (dq) ?_;exact aw
theorem VV {t:T} {n:Nat} (h:cP t.n.kind t.kids.length=true) (hk:(n=1/\(t.n.kind=13\/t.n.kind=7\/t.n.kind=11\/t.n.kind=12))\/(n=2/\(t.n.kind=8\/t.n.kind=10))):t.kids.length=n:=by
 unfold cP at h
 rcases hk with ⟨rfl,hk⟩ | ⟨rfl,hk⟩
 ·rcases hk with hk | hk | hk | hk <;> rw [hk] at h <;> simp at h <;> omega
 ·rcases hk with hk | hk <;> rw [hk] at h <;> simp at h <;> omega
theorem Ur {t:T} (h:cP t.n.kind t.kids.length=true) (hk:t.n.kind=9):t.kids.length=2\/t.kids.length=3:=by
 unfold cP at h;rw [hk] at h;simp at h;omega
theorem G3 (ex bk:FuncId) [he:aD Tryz.prog ex] [hb:aD Tryz.prog bk] (tx:T->ai) (inl:List ai->Nat->ai) (W:Wr ex bk tx inl):∀ (N:Nat) (t:T),aO t<=N->fG t=true->ow t->jg t<=1099511627776->∀ d,d+aO t<=1099511627776->(jx tx inl d t).length<=1099511627776 ->
  GF Tryz.prog 231 [.agg [.v (ik ex),.v (ik bk)],uT t,.v (ii (d:Nat))] [] (.v (sv (jx tx inl d t))) []:=by
 intro N
 induction N with
 | zero=>intro t h;rw [Go.Xp.dX] at h;omega
 | succ N ih =>
 intro t hN hk hn hw d hd hlen;have eS:=W.expr t hk hn hw;rw [Go.Xp.dX] at hN hd;rw [Go.Im.xi,Bool.and_eq_true,Go.Im.su,all_eq_true] at hk;rw [Go.Im.qg] at hn;have hwe:=Go.Im.od t
 have Jr:∀ (l:List T) (a:T),a∈l->aO a<=az l:=by
  intro l
  induction l with
  | nil=>intro a h;cases h
  | cons b l ih2 =>
   intro a h;rw [az]
   rcases List.mem_cons.1 h with rfl | h
   ·omega
   ·have:=ih2 a h;omega
 have gM:=fun (k:Nat) (a:T) (mn:t.kids[k]?=some a)=>V8 ex bk tx t a k mn (W.expr a (hk.2 a (mem_of_getElem? mn)) (Go.Im.jd hn.2 (mem_of_getElem? mn)) (by have:=Go.Im.sN (mem_of_getElem? mn);omega))
 have dq:∀ a∈t.kids,(mh tx inl d a).length<=1099511627776->GF Tryz.prog 197 [.agg [.v (ik ex),.v (ik bk)],uT a,.v (ii (d:Nat))] [] (.v (sv (mh tx inl d a))) []:=fun a ha TM=>by
  have h1:=Jr _ a ha;have h2:=Go.Im.sN ha;have h3:=hk.2 a ha;have h4:=Go.Im.jd hn.2 ha;rw [Go.Im.xi,Bool.and_eq_true,Go.Im.su,all_eq_true] at h3;rw [Go.Im.qg] at h4;have h5:=Go.Xp.dX a;have h6:=Go.Xp.cx a.kids;have h7:=Go.Im.od a
  refine yn ex bk tx inl W a d ah ah TM fun b eC Zr=>?_
  have h8:=Jr _ b eC;have h9:=Go.Im.sN eC;exact ih b ah (h3.2 b eC) (Go.Im.jd h4.2 eC) ah (d+1) ah Zr
 rw [M9] at hlen |-;unfold wy at hlen |-;rw [Hc] at hlen |-;have uw:=@VV t;have XQ:=@Ur t hk.1
 have uw:=fun n=>@uw n hk.1
 unfold uT at eS |-;unfold uT at gM;generalize kU:t.n.kind=kd at *
 by_cases eB:kd=13
 ·subst eB
  have f13:((13:Int)==13)=true:=by decide
  rw [if_pos rfl] at hlen |-;have eX:=uw 1 (.inl ⟨rfl,.inl rfl⟩)
  obtain ⟨a,ha⟩:∃ a,t.kids=[a]:=by
   match hl:t.kids,eX with
   | [a],_=>exact ⟨a,rfl⟩
  have h0:=gM 0 a (by rw [ha];rfl);rw [ha] at hlen |-;rw [ha] at h0;simp only [List.map_cons,map_nil,getD_cons_zero,length_append,length_cons,length_nil] at hlen |-;generalize tx a=x at *;generalize bX [a]=rows at *;refine da Tryz.func231 Tryz.ntmps231 ?_;refine iN ?_;refine GL.wk (Wk.freeze (i:=0) rfl rfl rfl (Nat.zero_le _)) ?_;refine GL.wk (Wk.freeze (i:=1) rfl rfl rfl (Nat.zero_le _)) ?_;refine GN (by simp only [nK,mG];rfl) ?_;refine ae ?_;refine aE (aH [0,1,2,3,4,5,6,7] (.a 8 (.q 9 (.q 10 (.q 11 .nil))))) ?_;refine ak ?_;refine nb [] (h0) ?_;refine ak ?_;exact aw
 rw [if_neg eB] at hlen |-
 have g13:(kd==13)=false:=by simpa using eB
 by_cases h7:kd=7
 ·subst h7
  have f13:((7:Int)==13)=false:=by decide
  have f7:((7:Int)==7)=true:=by decide
  rw [if_pos rfl] at hlen |-;have eX:=uw 1 (.inl ⟨rfl,.inr (.inl rfl)⟩)
  obtain ⟨a,ha⟩:∃ a,t.kids=[a]:=by
   match hl:t.kids,eX with
   | [a],_=>exact ⟨a,rfl⟩
  have h0:=gM 0 a (by rw [ha];rfl);rw [ha] at hlen |-;rw [ha] at h0;simp only [List.map_cons,map_nil,getD_cons_zero,length_append,length_cons,length_nil] at hlen |-;generalize tx a=x at *;generalize bX [a]=rows at *;refine da Tryz.func231 Tryz.ntmps231 ?_;refine iN ?_;refine GL.wk (Wk.freeze (i:=0) rfl rfl rfl (Nat.zero_le _)) ?_;refine GL.wk (Wk.freeze (i:=1) rfl rfl rfl (Nat.zero_le _)) ?_;refine GN (by simp only [nK,mG];rfl) ?_;refine ae ?_;refine aE (aH [0,1,2,3,4,5,6] (.a 7 (.q 8 (.q 9 (.q 10 .nil))))) ?_;refine ak ?_;refine nb [] (h0) ?_;refine ak ?_;exact aw
 rw [if_neg h7] at hlen |-
 have g7:(kd==7)=false:=by simpa using h7
 by_cases h8:kd=8
 ·subst h8
  have f13:((8:Int)==13)=false:=by decide
  have f7:((8:Int)==7)=false:=by decide
  have f8:((8:Int)==8)=true:=by decide
  rw [if_pos rfl] at hlen |-;have eX:=uw 2 (.inr ⟨rfl,.inl rfl⟩)
  obtain ⟨a,b,ha⟩:∃ a b,t.kids=[a,b]:=by
   match hl:t.kids,eX with
   | [a,b],_=>exact ⟨a,b,rfl⟩
  have h0:=gM 0 a (by rw [ha];rfl);have h1:=gM 1 b (by rw [ha];rfl);rw [ha] at hlen |-;rw [ha] at h0 h1;simp only [List.map_cons,map_nil,getD_cons_zero,getD_cons_succ,length_append,length_cons,length_nil] at hlen |-;generalize tx a=x at *;generalize tx b=y at *;generalize bX [a,b]=rows at *;refine da Tryz.func231 Tryz.ntmps231 ?_;refine iN ?_;refine GL.wk (Wk.freeze (i:=0) rfl rfl rfl (Nat.zero_le _)) ?_;refine GL.wk (Wk.freeze (i:=1) rfl rfl rfl (Nat.zero_le _)) ?_;refine GN (by simp only [nK,mG];rfl) ?_;refine ae ?_;refine aE (aH [0,1,2,3,4,5,6,10] (.a 7 (.q 8 (.q 9 (.a 11 (.q 12 (.q 13 (.q 14 .nil)))))))) ?_;refine ak ?_;refine nb [] (h0) ?_;refine ak ?_;refine nb [] (h1) ?_;refine ak ?_;exact aw
 rw [if_neg h8] at hlen |-
 have g8:(kd==8)=false:=by simpa using h8
 by_cases h9:kd=9
 ·subst h9
  have f13:((9:Int)==13)=false:=by decide
  have f7:((9:Int)==7)=false:=by decide
  have f8:((9:Int)==8)=false:=by decide
  have f9:((9:Int)==9)=true:=by decide
  rw [if_pos rfl] at hlen |-
  rcases XQ rfl with eX | eX
  ·skip
   obtain ⟨a,b,ha⟩:∃ a b,t.kids=[a,b]:=by
    match hl:t.kids,eX with
    | [a,b],_=>exact ⟨a,b,rfl⟩
   have h0:=gM 0 a (by rw [ha];rfl)
   have fR:(bX [a,b])[1]?=some [uT b]:=by rw [jO];rfl
   have EJ:(bX [a,b]).length=2:=by rw [qj];rfl
   have uz:(((bX [a,b]).length:Int)==3)=false:=by rw [EJ];decide
   rw [ha] at hlen |-;rw [ha] at h0;rw [if_neg (by simp)] at hlen |-;simp only [List.map_cons,map_nil,getD_cons_zero,getD_cons_succ,length_append,length_cons,length_nil] at hlen |-;have yz:=dq b (by rw [ha];simp) ah;generalize tx a=x at *;generalize mh tx inl d b=y at *;clear dq gM ih;generalize bX [a,b]=rows at *;refine da Tryz.func231 Tryz.ntmps231 ?_;refine iN ?_;refine GL.wk (Wk.freeze (i:=0) rfl rfl rfl (Nat.zero_le _)) ?_;refine GL.wk (Wk.freeze (i:=1) rfl rfl rfl (Nat.zero_le _)) ?_;refine GN (by simp only [nK,mG];rfl) ?_;refine ae ?_;refine aE (aH [0,4,5,6,7,8,9,10,11] (.a 1 (.q 2 (.q 3 (.a 12 (.q 13 (.q 14 .nil))))))) ?_;refine ak ?_;refine nb [] (h0) ?_;refine ak ?_;refine aC [] (yz) ?_;exact aw
  ·skip
   obtain ⟨a,b,c,ha⟩:∃ a b c,t.kids=[a,b,c]:=by
    match hl:t.kids,eX with
    | [a,b,c],_=>exact ⟨a,b,c,rfl⟩
   have h0:=gM 0 a (by rw [ha];rfl)
   have fR:(bX [a,b,c])[1]?=some [uT b]:=by rw [jO];rfl
   have c6:(bX [a,b,c])[2]?=some [uT c]:=by rw [jO];rfl
   have EJ:(bX [a,b,c]).length=3:=by rw [qj];rfl
   have uz:(((bX [a,b,c]).length:Int)==3)=true:=by rw [EJ];decide
   rw [ha] at hlen |-;rw [ha] at h0;rw [if_pos (by simp)] at hlen |-;simp only [List.map_cons,map_nil,getD_cons_zero,getD_cons_succ,length_append,length_cons,length_nil] at hlen |-;have yz:=dq b (by rw [ha];simp) ah;have eC:=dq c (by rw [ha];simp) ah;generalize tx a=x at *;generalize mh tx inl d b=y at *;generalize mh tx inl d c=z at *;clear dq gM ih;generalize bX [a,b,c]=rows at *;refine da Tryz.func231 Tryz.ntmps231 ?_;refine iN ?_;refine GL.wk (Wk.freeze (i:=0) rfl rfl rfl (Nat.zero_le _)) ?_;refine GL.wk (Wk.freeze (i:=1) rfl rfl rfl (Nat.zero_le _)) ?_;refine GN (by simp only [nK,mG];rfl) ?_;refine ae ?_;refine aE (aH [0,4,5,6,7,8,9,10,11] (.a 1 (.q 2 (.q 3 (.a 12 (.q 13 (.q 14 .nil))))))) ?_;refine ak ?_;refine nb [] (h0) ?_;refine ak ?_;refine aC [] (yz) ?_;refine ae ?_;refine aE (aH [0,1,2,3,4,5,6,7,8] (.a 9 (.q 10 (.q 11 (.q 12 .nil))))) ?_;refine ak ?_;refine aC [] (eC) ?_;exact aw
 rw [if_neg h9] at hlen |-
 have g9:(kd==9)=false:=by simpa using h9
 by_cases kF:kd=10
 ·subst kF
  have f13:((10:Int)==13)=false:=by decide
  have f7:((10:Int)==7)=false:=by decide
  have f8:((10:Int)==8)=false:=by decide
  have f9:((10:Int)==9)=false:=by decide
  have f10:((10:Int)==10)=true:=by decide
  rw [if_pos rfl] at hlen |-;have eX:=uw 2 (.inr ⟨rfl,.inr rfl⟩)
  ·skip
   obtain ⟨a,b,ha⟩:∃ a b,t.kids=[a,b]:=by
    match hl:t.kids,eX with
    | [a,b],_=>exact ⟨a,b,rfl⟩
   have h0:=gM 0 a (by rw [ha];rfl)
   have fR:(bX [a,b])[1]?=some [uT b]:=by rw [jO];rfl
   have EJ:(bX [a,b]).length=2:=by rw [qj];rfl
   have uz:(((bX [a,b]).length:Int)==3)=false:=by rw [EJ];decide
   rw [ha] at hlen |-;rw [ha] at h0;simp only [List.map_cons,map_nil,getD_cons_zero,getD_cons_succ,length_append,length_cons,length_nil] at hlen |-;have yz:=dq b (by rw [ha];simp) ah;generalize tx a=x at *;generalize mh tx inl d b=y at *;clear dq gM ih;generalize bX [a,b]=rows at *;refine da Tryz.func231 Tryz.ntmps231 ?_;refine iN ?_;refine GL.wk (Wk.freeze (i:=0) rfl rfl rfl (Nat.zero_le _)) ?_;refine GL.wk (Wk.freeze (i:=1) rfl rfl rfl (Nat.zero_le _)) ?_;refine GN (by simp only [nK,mG];rfl) ?_;refine ae ?_;refine aE (aH [0,4,5,6,7,8,9,10,11] (.a 1 (.q 2 (.q 3 (.a 12 (.q 13 (.q 14 .nil))))))) ?_;refine ak ?_;refine nb [] (h0) ?_;refine ak ?_;refine aC [] (yz) ?_;exact aw
 rw [if_neg kF] at hlen |-
 have g10:(kd==10)=false:=by simpa using kF
 by_cases nW:kd=11
 ·subst nW
  have f13:((11:Int)==13)=false:=by decide
  have f7:((11:Int)==7)=false:=by decide
  have f8:((11:Int)==8)=false:=by decide
  have f9:((11:Int)==9)=false:=by decide
  have f10:((11:Int)==10)=false:=by decide
  have f11:((11:Int)==11)=true:=by decide
  rw [if_pos rfl] at hlen |-;have eX:=uw 1 (.inl ⟨rfl,.inr (.inr (.inl rfl))⟩)
  obtain ⟨a,ha⟩:∃ a,t.kids=[a]:=by
   match hl:t.kids,eX with
   | [a],_=>exact ⟨a,rfl⟩
  have h0:=gM 0 a (by rw [ha];rfl);rw [ha] at hlen |-;rw [ha] at h0;simp only [List.map_cons,map_nil,getD_cons_zero,length_append,length_cons,length_nil] at hlen |-;generalize tx a=x at *;generalize bX [a]=rows at *;refine da Tryz.func231 Tryz.ntmps231 ?_;refine iN ?_;refine GL.wk (Wk.freeze (i:=0) rfl rfl rfl (Nat.zero_le _)) ?_;refine GL.wk (Wk.freeze (i:=1) rfl rfl rfl (Nat.zero_le _)) ?_;refine GN (by simp only [nK,mG];rfl) ?_;refine ae ?_;refine na [] (h0) ?_;exact aw
 rw [if_neg nW] at hlen |-
 have g11:(kd==11)=false:=by simpa using nW
 by_cases nB:kd=12
 ·subst nB
  have f13:((12:Int)==13)=false:=by decide
  have f7:((12:Int)==7)=false:=by decide
  have f8:((12:Int)==8)=false:=by decide
  have f9:((12:Int)==9)=false:=by decide
  have f10:((12:Int)==10)=false:=by decide
  have f11:((12:Int)==11)=false:=by decide
  have f12:((12:Int)==12)=true:=by decide
  rw [if_pos rfl] at hlen |-;have eX:=uw 1 (.inl ⟨rfl,.inr (.inr (.inr rfl))⟩)
  obtain ⟨a,ha⟩:∃ a,t.kids=[a]:=by
   match hl:t.kids,eX with
   | [a],_=>exact ⟨a,rfl⟩
  have h0:=gM 0 a (by rw [ha];rfl);rw [ha] at hlen |-;rw [ha] at h0;simp only [List.map_cons,map_nil,getD_cons_zero,length_append,length_cons,length_nil] at hlen |-;generalize tx a=x at *;generalize bX [a]=rows at *;refine da Tryz.func231 Tryz.ntmps231 ?_;refine iN ?_;refine GL.wk (Wk.freeze (i:=0) rfl rfl rfl (Nat.zero_le _)) ?_;refine GL.wk (Wk.freeze (i:=1) rfl rfl rfl (Nat.zero_le _)) ?_;refine GN (by simp only [nK,mG];rfl) ?_;refine ae ?_;refine na [] (h0) ?_;exact aw
 rw [if_neg nB] at hlen |-
 have g12:(kd==12)=false:=by simpa using nB
 clear dq gM ih;generalize tx t=x at *;refine da Tryz.func231 Tryz.ntmps231 ?_;refine iN ?_;refine GL.wk (Wk.freeze (i:=0) rfl rfl rfl (Nat.zero_le _)) ?_;refine GL.wk (Wk.freeze (i:=1) rfl rfl rfl (Nat.zero_le _)) ?_;refine GN (by simp only [nK,mG];rfl) ?_;refine ae ?_;refine ig [] (eS) ?_;exact aw
end Go.Xg
namespace Go.Xg
open Go.RowKit Go.Xw Go.Proofs
open Go.Xp (Tok Nd T Ar levels cm bx aO az)
open Go.Sp (Src)
open Go.Im
attribute [local irreducible] GW GL GO YG GC GA aW aZ
theorem O8 (ex bk:FuncId) [he:aD Tryz.prog ex] [hb:aD Tryz.prog bk] (tx:T->ai) (inl:List ai->Nat->ai) (W:Wr ex bk tx inl) (p:Src) (trees:List T) (hlen:(mc tx inl p trees).length<=1099511627776) (hft:p.fns.length=trees.length)
  (hg:p.globals.length<=1099511627776) (ha:p.arrays.length<=1099511627776) (hf:p.fns.length<=1099511627776) (iU:∀ a∈p.arrays,-9223372036854775808<=a.size/\a.size<=9223372036854775807) (CL:∀ f∈p.fns,f.params.length<=1099511627776)
  (ht:∀ t∈trees,fG t=true/\ow t/\jg t<=1099511627776/\aO t+1<=1099511627776) :
  GF Tryz.prog 159 [.agg (av p),.sl 1 (bX trees),.v (ik ex),.v (ik bk)] [] (.v (sv (mc tx inl p trees))) []:=by
 have WO:(p.globals.map fun s=>[GV.v (sv s)]).length=p.globals.length:=by simp
 have jV:(p.arrays.map aB).length=p.arrays.length:=by simp
 have WN:(p.fns.map au).length=p.fns.length:=by simp
 have l2:=Bl (f1 tx inl) (p.fns.zip trees) (c7 a1 (c7 g1 [] p.globals) p.arrays);have l1:=Bl a1 p.arrays (c7 g1 [] p.globals);unfold mc at hlen |-;refine aj Tryz.func159 Tryz.ntmps159 ?_;refine GW.wk (Wk.BQ (t:=9) (a:=none) (c:=0) 5 1 rfl) ?_;refine GW.range (p.globals.map fun s=>[GV.v (sv s)]).length (fun k fr Γ=>∃ acc m rows,fr=[.U,.sl 1 (bX trees),.v (ik ex),.v (ik bk),.loc 0 0,.U,.U,.U,.U,.vec 1 m,.U,.U,.U,.U,.U,.U,.U,.U,strs p.globals,.v (ii ((p.globals.map fun s=>[GV.v (sv s)]).length:Int)),.v (ii (k:Nat)),.U,.U,.U,.U,.U,.U,.U,.U,.U,.U,.U,.U,.U,.U,.U,.U,.U,.U,.U,.U,.U,.U,.U,.U,.U,.U,.U,.U,.U,.U,.U,.U,.U,.U,.U,.U,.U,.U,.U,.U,.U,.U,.U,.U,.U,.U,.U,.U,.U,.U,.U,.U,.U,.U,.U,.U,.U,.U,.U,.U,.U]/\Γ=[.box 34 (av p),.vec 5 1 0 rows]/\rows.length=m/\rows=b7 acc/\acc=c7 g1 [] (p.globals.take k)) ?_ ah ?_ ?_ ?_
 ·exact ⟨_,_,Wk.ax ao,[],0,[],rfl,rfl,rfl,rfl,rfl⟩
 ·rintro k _ _ ⟨acc,m,rows,rfl,rfl,_⟩;exact ⟨rfl,rfl,rfl⟩
 ·rintro k _ _ ar ⟨acc,m,rows,rfl,rfl,hm,bs,kB⟩;rw [WO] at ar
  have cQ:p.globals[k]?=some p.globals[k]:=by simp [ar]
  have sf:(p.globals.map fun s=>[GV.v (sv s)])[k]?=some [.v (sv p.globals[k])]:=by rw [getElem?_map,cQ];rfl
  have bt:c7 g1 [] (p.globals.take (k+1))=acc++g1 p.globals[k]:=by rw [take_add_one,cQ,kB];exact wG g1 _ _ _
  have hle:=wH g1 p.globals (k+1) [];rw [bt,length_append] at hle
  have WQ:rows.length=acc.length:=by rw [bs];simp [b7]
  generalize p.globals[k]=z at *
  have hz:(g1 z).length=z.length+6:=by unfold g1;simp
  refine ae ?_;refine GL.Bc (str:=g1 z) rfl rfl rfl (by first | rfl | assumption) rfl ah ?_;refine bK ?_;refine ae ?_;exact ⟨rfl,rfl,_,_,Wk.ax ao,acc++g1 z,_,_,rfl,rfl,by rw [length_append,hm];simp [b7],by rw [bs];exact (sV acc (g1 z)).symm,bt.symm⟩
 ·rintro _ _ ⟨acc,m,rows,rfl,rfl,hm,bs,kB⟩;rw [WO,take_length] at kB;rw [<-kB] at hlen l1 l2 |-;refine aK ?_;refine ae ?_;refine GW.range (p.arrays.map aB).length (fun k fr Γ=>∃ pV m rows,fr=[.U,.sl 1 (bX trees),.v (ik ex),.v (ik bk),.loc 0 0,.U,.U,.U,.U,.vec 1 m,.U,.U,.U,.U,.U,.U,.U,.U,.U,.U,.U,.U,.U,.U,.U,.U,.U,.U,.U,.U,.U,.sl 2 (p.arrays.map aB),.v (ii ((p.arrays.map aB).length:Int)),.v (ii (k:Nat)),.U,.U,.U,.U,.U,.U,.U,.U,.U,.U,.U,.U,.U,.U,.U,.U,.U,.U,.U,.U,.U,.U,.U,.U,.U,.U,.U,.U,.U,.U,.U,.U,.U,.U,.U,.U,.U,.U,.U,.U,.U,.U,.U,.U,.U,.U,.U,.U]/\Γ=[.box 34 (av p),.vec 5 1 0 rows]/\rows.length=m/\rows=b7 pV/\pV=c7 a1 acc (p.arrays.take k)) ?_ ah ?_ ?_ ?_
  ·exact ⟨_,_,Wk.ax ao,acc,m,rows,rfl,rfl,hm,bs,rfl⟩
  ·rintro k _ _ ⟨pV,m,rows,rfl,rfl,_⟩;exact ⟨rfl,rfl,rfl⟩
  ·clear hm bs;rintro k _ _ ar ⟨pV,m,rows,rfl,rfl,hm,bs,Dw⟩;rw [jV] at ar
   have cQ:p.arrays[k]?=some p.arrays[k]:=by simp [ar]
   have sf:(p.arrays.map aB)[k]?=some (aB p.arrays[k]):=by rw [getElem?_map,cQ];rfl
   have bt:c7 a1 acc (p.arrays.take (k+1))=pV++a1 p.arrays[k]:=by rw [take_add_one,cQ,Dw];exact wG a1 _ _ _
   have hle:=wH a1 p.arrays (k+1) acc;rw [bt,length_append] at hle
   have WQ:rows.length=pV.length:=by rw [bs];simp [b7]
   have xd:=iU p.arrays[k] (getElem_mem ar);generalize p.arrays[k]=z at *;have hit:=Ky z.size xd.1 xd.2;have we:=xh xd
   have hz:(a1 z).length=z.name.length+(nr z.size).length+8:=by unfold a1;simp;omega
   unfold aB at sf;refine ae ?_;refine aE (aH [0,1,2,3,4,5,6] (.a 7 (.q 8 (.q 9 (.a 10 (.q 11 .nil)))))) ?_;refine ak ?_;refine aC [] (hit) ?_;refine OA rfl rfl (GL.Bc (str:=a1 z) rfl rfl rfl (by first | rfl | assumption) rfl ah (GL.nil (aK (eA.mk (by repeat (first | exact iz.n | (apply iz.w;(· decide +kernel)) | (apply iz.y;(· first | (apply YQ.t;(· exact rfl);(· exact rfl);(· (first | (apply K.ld;first | exact YG.H2 rfl rfl (by first | rfl | assumption) | exact YG.BI rfl rfl rfl rfl | exact YG.ldV rfl rfl (by first | rfl | assumption) (by first | rfl | assumption) (by first | rfl | assumption) | exact YG.H0 rfl rfl (by first | rfl | assumption) (by first | rfl | assumption) (by first | rfl | assumption)) | (apply K.idx;first | exact YG.idxV rfl rfl rfl (by first | rfl | assumption) ah | exact YG.dL 0 rfl rfl rfl (by first | omega | assumption | (simp only [length_append,length_cons,length_nil];omega)) | exact YG.dL 1 rfl rfl rfl (by first | omega | assumption | (simp only [length_append,length_cons,length_nil];omega)) | exact YG.dL 2 rfl rfl rfl (by first | omega | assumption | (simp only [length_append,length_cons,length_nil];omega)) | exact YG.dL 3 rfl rfl rfl (by first | omega | assumption | (simp only [length_append,length_cons,length_nil];omega)) | exact YG.dL 4 rfl rfl rfl (by first | omega | assumption | (simp only [length_append,length_cons,length_nil];omega)) | exact YG.dL 5 rfl rfl rfl (by first | omega | assumption | (simp only [length_append,length_cons,length_nil];omega)) | exact YG.dL 6 rfl rfl rfl (by first | omega | assumption | (simp only [length_append,length_cons,length_nil];omega))) | (apply K.wQ;first | exact YG.fldV rfl rfl (by first | rfl | assumption) | exact YG.Bv rfl rfl (by first | rfl | assumption)) | exact YG.qW 1 rfl rfl (by first | rfl | assumption) (by first | rfl | assumption) | exact YG.mv | exact YG.sT | (apply K.bin;first | exact YG.go rfl | exact YG.wC rfl rfl ah | exact YG.zV rfl rfl | exact YG.AH rfl rfl | exact YG.D0 rfl rfl | exact YG.Fg rfl rfl | exact YG.cat rfl rfl ah | exact YG.cat rfl rfl (by simp only [length_append,length_cons,length_nil];omega) | exact YG.ef rfl rfl ah | exact YG.add rfl rfl ah | exact YG.sub rfl rfl ah | exact YG.mul rfl rfl ah | exact YG.FU rfl rfl ah | exact YG.quo rfl rfl ah | exact YG.rem rfl rfl ah | exact YG.vA rfl rfl) | (apply K.wQ;first | exact YG.Bw rfl | exact YG.Bu rfl) | (apply K.ld;first | exact YG.HZ rfl (by first | rfl | assumption) | exact YG.BH rfl rfl rfl) | (apply K.len;first | exact YG.AE rfl | exact YG.zA rfl | exact YG.EX rfl | exact YG.EY rfl | exact YG.lenA rfl) | (apply K.ML;first | exact YG.Fi rfl | exact YG.Fh rfl) | (apply K.pick;first | exact YG.C8 rfl (by first | rfl | assumption) | exact YG.C7 rfl (by first | rfl | assumption)) | (apply K.idx;first | exact YG.vq rfl rfl (by assumption) | exact YG.lQ rfl rfl (by assumption) rfl | exact YG.lQ rfl rfl (by assumption) ah | exact YG.xf rfl rfl ah) | exact YG.ext rfl rfl | exact YG.go rfl | (apply K.M7;first | exact YG.FT rfl rfl rfl ah | exact YG.FQ rfl rfl ah | exact YG.FP rfl rfl ah | exact YG.xy 1 rfl rfl rfl (by first | rfl | assumption)) | exact YG.qa rfl rfl (by assumption) | exact YG.idxSC rfl rfl (by assumption) rfl | (apply K.pk;first | exact YG.mkfn0 | exact YG.pk) | exact YG.build rfl | exact YG.neg rfl ah | exact YG.p7 rfl rfl | exact YG.wJ rfl (by first | rfl | exact IntWalk.i64_in _ ah | exact IntWalk.u8_in _ ah | assumption) | exact YG.str rfl (by first | rfl | assumption)))) | (apply YQ.t;(· exact rfl);(· apply Bx;(· exact rfl);(· first | exact rfl | assumption));(· (first | (apply K.ld;first | exact YG.H2 rfl rfl (by first | rfl | assumption) | exact YG.BI rfl rfl rfl rfl | exact YG.ldV rfl rfl (by first | rfl | assumption) (by first | rfl | assumption) (by first | rfl | assumption) | exact YG.H0 rfl rfl (by first | rfl | assumption) (by first | rfl | assumption) (by first | rfl | assumption)) | (apply K.idx;first | exact YG.idxV rfl rfl rfl (by first | rfl | assumption) ah | exact YG.dL 0 rfl rfl rfl (by first | omega | assumption | (simp only [length_append,length_cons,length_nil];omega)) | exact YG.dL 1 rfl rfl rfl (by first | omega | assumption | (simp only [length_append,length_cons,length_nil];omega)) | exact YG.dL 2 rfl rfl rfl (by first | omega | assumption | (simp only [length_append,length_cons,length_nil];omega)) | exact YG.dL 3 rfl rfl rfl (by first | omega | assumption | (simp only [length_append,length_cons,length_nil];omega)) | exact YG.dL 4 rfl rfl rfl (by first | omega | assumption | (simp only [length_append,length_cons,length_nil];omega)) | exact YG.dL 5 rfl rfl rfl (by first | omega | assumption | (simp only [length_append,length_cons,length_nil];omega)) | exact YG.dL 6 rfl rfl rfl (by first | omega | assumption | (simp only [length_append,length_cons,length_nil];omega))) | (apply K.wQ;first | exact YG.fldV rfl rfl (by first | rfl | assumption) | exact YG.Bv rfl rfl (by first | rfl | assumption)) | exact YG.qW 1 rfl rfl (by first | rfl | assumption) (by first | rfl | assumption) | exact YG.mv | exact YG.sT | (apply K.bin;first | exact YG.go rfl | exact YG.wC rfl rfl ah | exact YG.zV rfl rfl | exact YG.AH rfl rfl | exact YG.D0 rfl rfl | exact YG.Fg rfl rfl | exact YG.cat rfl rfl ah | exact YG.cat rfl rfl (by simp only [length_append,length_cons,length_nil];omega) | exact YG.ef rfl rfl ah | exact YG.add rfl rfl ah | exact YG.sub rfl rfl ah | exact YG.mul rfl rfl ah | exact YG.FU rfl rfl ah | exact YG.quo rfl rfl ah | exact YG.rem rfl rfl ah | exact YG.vA rfl rfl) | (apply K.wQ;first | exact YG.Bw rfl | exact YG.Bu rfl) | (apply K.ld;first | exact YG.HZ rfl (by first | rfl | assumption) | exact YG.BH rfl rfl rfl) | (apply K.len;first | exact YG.AE rfl | exact YG.zA rfl | exact YG.EX rfl | exact YG.EY rfl | exact YG.lenA rfl) | (apply K.ML;first | exact YG.Fi rfl | exact YG.Fh rfl) | (apply K.pick;first | exact YG.C8 rfl (by first | rfl | assumption) | exact YG.C7 rfl (by first | rfl | assumption)) | (apply K.idx;first | exact YG.vq rfl rfl (by assumption) | exact YG.lQ rfl rfl (by assumption) rfl | exact YG.lQ rfl rfl (by assumption) ah | exact YG.xf rfl rfl ah) | exact YG.ext rfl rfl | exact YG.go rfl | (apply K.M7;first | exact YG.FT rfl rfl rfl ah | exact YG.FQ rfl rfl ah | exact YG.FP rfl rfl ah | exact YG.xy 1 rfl rfl rfl (by first | rfl | assumption)) | exact YG.qa rfl rfl (by assumption) | exact YG.idxSC rfl rfl (by assumption) rfl | (apply K.pk;first | exact YG.mkfn0 | exact YG.pk) | exact YG.build rfl | exact YG.neg rfl ah | exact YG.p7 rfl rfl | exact YG.wJ rfl (by first | rfl | exact IntWalk.i64_in _ ah | exact IntWalk.u8_in _ ah | assumption) | exact YG.str rfl (by first | rfl | assumption)))) | (apply YQ.f;(· exact rfl);(· apply Ec;(· exact rfl);(· first | exact rfl | assumption))))))) ?_))))
   refine Nu ?_;refine ak ?_;refine ae ?_;exact ⟨rfl,rfl,_,_,(Wk.cut (n:=2) (Nat.zero_le _) rfl).trans (Wk.ax ao),pV++a1 z,_,_,rfl,rfl,by rw [length_append,hm];simp [b7],by rw [bs];exact (sV pV (a1 z)).symm,bt.symm⟩
  ·clear hm bs;rintro _ _ ⟨pV,m,rows,rfl,rfl,hm,bs,Dw⟩;rw [jV,take_length] at Dw;rw [<-Dw] at hlen l2 |-
   have xa:∀ (k:Nat) (f:Go.Sp.Fn),p.fns[k]?=some f->f.params.length<=1099511627776:=fun k f h=>CL f (mem_of_getElem? h)
   refine aK ?_;refine ae ?_;refine GW.range (p.fns.map au).length (fun k fr Γ=>∃ tI m rows,fr=[.U,.sl 1 (bX trees),.U,.U,.U,.U,.U,.U,.U,.vec 1 m,.U,.U,.U,.U,.loc 2 0,.U,.U,.U,.U,.U,.U,.U,.U,.U,.U,.U,.U,.U,.U,.U,.U,.U,.U,.U,.U,.U,.U,.U,.U,.U,.U,.U,.U,.U,.U,.U,.U,.U,.U,.U,.U,.U,.U,.sl 3 (p.fns.map au),.v (ii ((p.fns.map au).length:Int)),.v (ii (k:Nat)),.U,.U,.U,.U,.U,.U,.U,.U,.U,.U,.U,.U,.U,.U,.U,.U,.U,.U,.U,.U,.U,.U,.U,.U,.U,.U]/\Γ=[.box 34 (av p),.vec 5 1 0 rows,.box 192 [.v (ik ex),.v (ik bk)]]/\rows.length=m/\rows=b7 tI/\tI=c7 (f1 tx inl) pV ((p.fns.zip trees).take k)) ?_ ah ?_ ?_ ?_
   ·exact ⟨_,_,Wk.ax ao,pV,m,rows,rfl,rfl,hm,bs,rfl⟩
   ·rintro k _ _ ⟨tI,m,rows,rfl,rfl,_⟩;exact ⟨rfl,rfl,rfl⟩
   ·clear hm bs;rintro k _ _ ar ⟨tI,m,rows,rfl,rfl,hm,bs,Dx⟩;rw [WN] at ar
    have ma:k < trees.length:=by omega
    have cQ:p.fns[k]?=some p.fns[k]:=by simp [ar]
    have wg:trees[k]?=some trees[k]:=by simp [ma]
    have sf:(p.fns.map au)[k]?=some (au p.fns[k]):=by rw [getElem?_map,cQ];rfl
    have aal:=uO wg
    have Zp:(p.fns.zip trees)[k]?=some (p.fns[k],trees[k]):=by rw [List.getElem?_zip_eq_some];exact ⟨cQ,wg⟩
    have bt:c7 (f1 tx inl) pV ((p.fns.zip trees).take (k+1))=tI++f1 tx inl (p.fns[k],trees[k]):=by rw [take_add_one,Zp,Dx];exact wG (f1 tx inl) _ _ _
    have hle:=wH (f1 tx inl) (p.fns.zip trees) (k+1) pV;rw [bt,length_append] at hle
    have WQ:rows.length=tI.length:=by rw [bs];simp [b7]
    obtain ⟨q1,q2,q3,q4⟩:=ht trees[k] (getElem_mem ma);have Mb:=xa k _ cQ;generalize p.fns[k]=f at *;generalize trees[k]=t at *
    have hz:(f1 tx inl (f,t)).length=f.name.length+(bx f.params).length+(mh tx inl 0 t).length+9:=by unfold f1;simp;omega
    have hJ:=Kz f.params ah Mb
    have Jr:∀ (l:List T) (a:T),a∈l->aO a<=az l:=by
     intro l
     induction l with
     | nil=>intro a h;cases h
     | cons b l ih2 =>
      intro a h;rw [az]
      rcases List.mem_cons.1 h with rfl | h
      ·omega
      ·have:=ih2 a h;omega
    have hB:=yn ex bk tx inl W t 0 ah (by have:=Go.Xp.cx t.kids;have:=Go.Xp.dX t;omega) ah fun a LU TM=>by
     have h1:=Jr _ a LU;have h2:=Go.Xp.dX t;have h3:=sN LU;have h4:=od t;rw [xi,Bool.and_eq_true,su,all_eq_true] at q1;rw [qg] at q2;exact G3 ex bk tx inl W _ a (Nat.le_refl _) (q1.2 a LU) (jd q2.2 LU) ah (0+1) ah TM
    unfold au at sf;refine ae ?_;refine aE (aH [0,1,2,3,4,5,6,10,11,12,13,14] (.a 7 (.q 8 (.q 9 (.a 15 (.q 16 (.q 17 (.a 18 (.q 19 .nil))))))))) ?_;refine ak ?_;refine aC [] (hJ) ?_;refine aC [] (hB) ?_;refine OA rfl rfl (GL.Bc (str:=f1 tx inl (f,t)) rfl rfl rfl (by first | rfl | assumption) rfl ah (GL.nil (aK (eA.mk (by repeat (first | exact iz.n | (apply iz.w;(· decide +kernel)) | (apply iz.y;(· first | (apply YQ.t;(· exact rfl);(· exact rfl);(· (first | (apply K.ld;first | exact YG.H2 rfl rfl (by first | rfl | assumption) | exact YG.BI rfl rfl rfl rfl | exact YG.ldV rfl rfl (by first | rfl | assumption) (by first | rfl | assumption) (by first | rfl | assumption) | exact YG.H0 rfl rfl (by first | rfl | assumption) (by first | rfl | assumption) (by first | rfl | assumption)) | (apply K.idx;first | exact YG.idxV rfl rfl rfl (by first | rfl | assumption) ah | exact YG.dL 0 rfl rfl rfl (by first | omega | assumption | (simp only [length_append,length_cons,length_nil];omega)) | exact YG.dL 1 rfl rfl rfl (by first | omega | assumption | (simp only [length_append,length_cons,length_nil];omega)) | exact YG.dL 2 rfl rfl rfl (by first | omega | assumption | (simp only [length_append,length_cons,length_nil];omega)) | exact YG.dL 3 rfl rfl rfl (by first | omega | assumption | (simp only [length_append,length_cons,length_nil];omega)) | exact YG.dL 4 rfl rfl rfl (by first | omega | assumption | (simp only [length_append,length_cons,length_nil];omega)) | exact YG.dL 5 rfl rfl rfl (by first | omega | assumption | (simp only [length_append,length_cons,length_nil];omega)) | exact YG.dL 6 rfl rfl rfl (by first | omega | assumption | (simp only [length_append,length_cons,length_nil];omega))) | (apply K.wQ;first | exact YG.fldV rfl rfl (by first | rfl | assumption) | exact YG.Bv rfl rfl (by first | rfl | assumption)) | exact YG.qW 1 rfl rfl (by first | rfl | assumption) (by first | rfl | assumption) | exact YG.mv | exact YG.sT | (apply K.bin;first | exact YG.go rfl | exact YG.wC rfl rfl ah | exact YG.zV rfl rfl | exact YG.AH rfl rfl | exact YG.D0 rfl rfl | exact YG.Fg rfl rfl | exact YG.cat rfl rfl ah | exact YG.cat rfl rfl (by simp only [length_append,length_cons,length_nil];omega) | exact YG.ef rfl rfl ah | exact YG.add rfl rfl ah | exact YG.sub rfl rfl ah | exact YG.mul rfl rfl ah | exact YG.FU rfl rfl ah | exact YG.quo rfl rfl ah | exact YG.rem rfl rfl ah | exact YG.vA rfl rfl) | (apply K.wQ;first | exact YG.Bw rfl | exact YG.Bu rfl) | (apply K.ld;first | exact YG.HZ rfl (by first | rfl | assumption) | exact YG.BH rfl rfl rfl) | (apply K.len;first | exact YG.AE rfl | exact YG.zA rfl | exact YG.EX rfl | exact YG.EY rfl | exact YG.lenA rfl) | (apply K.ML;first | exact YG.Fi rfl | exact YG.Fh rfl) | (apply K.pick;first | exact YG.C8 rfl (by first | rfl | assumption) | exact YG.C7 rfl (by first | rfl | assumption)) | (apply K.idx;first | exact YG.vq rfl rfl (by assumption) | exact YG.lQ rfl rfl (by assumption) rfl | exact YG.lQ rfl rfl (by assumption) ah | exact YG.xf rfl rfl ah) | exact YG.ext rfl rfl | exact YG.go rfl | (apply K.M7;first | exact YG.FT rfl rfl rfl ah | exact YG.FQ rfl rfl ah | exact YG.FP rfl rfl ah | exact YG.xy 1 rfl rfl rfl (by first | rfl | assumption)) | exact YG.qa rfl rfl (by assumption) | exact YG.idxSC rfl rfl (by assumption) rfl | (apply K.pk;first | exact YG.mkfn0 | exact YG.pk) | exact YG.build rfl | exact YG.neg rfl ah | exact YG.p7 rfl rfl | exact YG.wJ rfl (by first | rfl | exact IntWalk.i64_in _ ah | exact IntWalk.u8_in _ ah | assumption) | exact YG.str rfl (by first | rfl | assumption)))) | (apply YQ.t;(· exact rfl);(· apply Bx;(· exact rfl);(· first | exact rfl | assumption));(· (first | (apply K.ld;first | exact YG.H2 rfl rfl (by first | rfl | assumption) | exact YG.BI rfl rfl rfl rfl | exact YG.ldV rfl rfl (by first | rfl | assumption) (by first | rfl | assumption) (by first | rfl | assumption) | exact YG.H0 rfl rfl (by first | rfl | assumption) (by first | rfl | assumption) (by first | rfl | assumption)) | (apply K.idx;first | exact YG.idxV rfl rfl rfl (by first | rfl | assumption) ah | exact YG.dL 0 rfl rfl rfl (by first | omega | assumption | (simp only [length_append,length_cons,length_nil];omega)) | exact YG.dL 1 rfl rfl rfl (by first | omega | assumption | (simp only [length_append,length_cons,length_nil];omega)) | exact YG.dL 2 rfl rfl rfl (by first | omega | assumption | (simp only [length_append,length_cons,length_nil];omega)) | exact YG.dL 3 rfl rfl rfl (by first | omega | assumption | (simp only [length_append,length_cons,length_nil];omega)) | exact YG.dL 4 rfl rfl rfl (by first | omega | assumption | (simp only [length_append,length_cons,length_nil];omega)) | exact YG.dL 5 rfl rfl rfl (by first | omega | assumption | (simp only [length_append,length_cons,length_nil];omega)) | exact YG.dL 6 rfl rfl rfl (by first | omega | assumption | (simp only [length_append,length_cons,length_nil];omega))) | (apply K.wQ;first | exact YG.fldV rfl rfl (by first | rfl | assumption) | exact YG.Bv rfl rfl (by first | rfl | assumption)) | exact YG.qW 1 rfl rfl (by first | rfl | assumption) (by first | rfl | assumption) | exact YG.mv | exact YG.sT | (apply K.bin;first | exact YG.go rfl | exact YG.wC rfl rfl ah | exact YG.zV rfl rfl | exact YG.AH rfl rfl | exact YG.D0 rfl rfl | exact YG.Fg rfl rfl | exact YG.cat rfl rfl ah | exact YG.cat rfl rfl (by simp only [length_append,length_cons,length_nil];omega) | exact YG.ef rfl rfl ah | exact YG.add rfl rfl ah | exact YG.sub rfl rfl ah | exact YG.mul rfl rfl ah | exact YG.FU rfl rfl ah | exact YG.quo rfl rfl ah | exact YG.rem rfl rfl ah | exact YG.vA rfl rfl) | (apply K.wQ;first | exact YG.Bw rfl | exact YG.Bu rfl) | (apply K.ld;first | exact YG.HZ rfl (by first | rfl | assumption) | exact YG.BH rfl rfl rfl) | (apply K.len;first | exact YG.AE rfl | exact YG.zA rfl | exact YG.EX rfl | exact YG.EY rfl | exact YG.lenA rfl) | (apply K.ML;first | exact YG.Fi rfl | exact YG.Fh rfl) | (apply K.pick;first | exact YG.C8 rfl (by first | rfl | assumption) | exact YG.C7 rfl (by first | rfl | assumption)) | (apply K.idx;first | exact YG.vq rfl rfl (by assumption) | exact YG.lQ rfl rfl (by assumption) rfl | exact YG.lQ rfl rfl (by assumption) ah | exact YG.xf rfl rfl ah) | exact YG.ext rfl rfl | exact YG.go rfl | (apply K.M7;first | exact YG.FT rfl rfl rfl ah | exact YG.FQ rfl rfl ah | exact YG.FP rfl rfl ah | exact YG.xy 1 rfl rfl rfl (by first | rfl | assumption)) | exact YG.qa rfl rfl (by assumption) | exact YG.idxSC rfl rfl (by assumption) rfl | (apply K.pk;first | exact YG.mkfn0 | exact YG.pk) | exact YG.build rfl | exact YG.neg rfl ah | exact YG.p7 rfl rfl | exact YG.wJ rfl (by first | rfl | exact IntWalk.i64_in _ ah | exact IntWalk.u8_in _ ah | assumption) | exact YG.str rfl (by first | rfl | assumption)))) | (apply YQ.f;(· exact rfl);(· apply Ec;(· exact rfl);(· first | exact rfl | assumption))))))) ?_))))
    refine Nu ?_;refine ak ?_;refine ae ?_;exact ⟨rfl,rfl,_,_,(Wk.cut (n:=3) (Nat.zero_le _) rfl).trans (Wk.ax ao),tI++f1 tx inl (f,t),_,_,rfl,rfl,by rw [length_append,hm];simp [b7],by rw [bs];exact (sV tI _).symm,bt.symm⟩
   ·clear hm bs;rintro _ _ ⟨tI,m,rows,rfl,rfl,hm,bs,Dx⟩;rw [WN,show (p.fns.zip trees).take p.fns.length=p.fns.zip trees from take_of_length_le (by simp;omega)] at Dx;rw [<-Dx] at hlen |-;refine aK ?_;refine GW.wk (Wk.iv (t:=9) rfl rfl rfl hm) ?_
    have aab:rows=tI.map fun c=>[.v (.int .u8 (c.toNat:Int))]:=bs
    exact aw
end Go.Xg
