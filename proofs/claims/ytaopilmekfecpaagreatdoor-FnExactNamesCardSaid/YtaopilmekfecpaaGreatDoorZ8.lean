/- Part 8 of proofs that are told in their last texts. -/
import Derived.Test.YtaopilmekfecpaaGreatDoorZ4
import Derived.ProofKit
import Derived.Below
import Derived.ChangeSame
import Derived.Test.YtaopilmekfecpaaGreatDoorZ6
import Derived.Lib.Builder
import Derived.Lib.UnsafeStr
import Derived.Shelf.Strings.Builder1
import Derived.Shelf.Strings.Builder2
import Derived.Shelf.Small.Strs
import Derived.Shelf.Strings.BuilderF
import Derived.Shelf.Strconv.Itoa0
import Derived.Shelf.Strconv.Itoa1
import Derived.Shelf.LaysM
import Derived.Shelf.Strconv.Itoa2
import Derived.Shelf.Strconv.Itoa3
import Derived.Shelf.Strings.Search1
import Derived.Shelf.Strings.Search2
import Derived.Shelf.Strings.Search3
import Derived.Shelf.Strings.Count
import Derived.Shelf.Strings.Shaped
import Derived.Shelf.Strings.Prefix
import Derived.Shelf.Strings.Split
import Derived.Shelf.Strings.Fields
import Derived.Shelf.Strings.SplitShaped
import Derived.Shelf.Unicode.Latin
import Derived.Shelf.Bits.Mul64
import Derived.Shelf.Strings.Repeat
import Derived.Shelf.Unicode.Is16White
import Derived.Shelf.Unicode.IsSpaceAny
import Derived.Shelf.Unicode.Is16Any
import Derived.Shelf.Unicode.Is32Any
import Derived.Shelf.Unicode.ExclAny
import Derived.Test.YtaopilmekfecpaaGreatDoorProg
import Derived.Test.YtaopilmekfecpaaGreatDoorZ5
import Derived.Test.YtaopilmekfecpaaGreatDoorZ2
import Derived.Test.YtaopilmekfecpaaGreatDoorZ1
import Derived.Laws.StructEq
set_option linter.unusedVariables false
set_option linter.unusedSimpArgs false
namespace Go.Xw
open Go.RowKit Go.WideShapes Go.ChangeShapes
section
variable {H:Type} {enc:TypeId × Value→H} {P:Program}
theorem post_of_below {f:Func} {s:ChangeSpec} {apart fresh handsOn again:Bool} {W W':World} {args:Array Value} {v:Value} {ds gs:List (DataW H)} {before pa pv:List MemPlace}
  (hW:DataW.Whole enc P f.params.toList s.vars apart W args.toList ds gs before)
  (hres:∀ (b:Nat) (sp:Nat→Bool) (hd:Bool),DataW.TrodAll enc P W' b sp hd f.resultTypes.toList (v.resultList f.resultTypes.size) (s.fn H (ds++gs)).results [])
  (hargs:∀ sp:Nat→Bool,(∀ p∈before,sp p.block=true)→DataW.TrodAll enc P W' 0 sp true f.params.toList args.toList (s.fn H (ds++gs)).args pa)
  (hvars:∀ sp:Nat→Bool,(∀ p∈before,sp p.block=true)→DataW.TrodVars enc P W' sp s.vars (s.fn H (ds++gs)).vars pv)
  (hps:before=pa++pv) (hb:Below W.heap.size W W')
  (hok:∀ (j:Nat) (t:TypeId) (r:Value),f.resultTypes[j]?=some t→(v.resultList f.resultTypes.size)[j]?=some r→Value.okWide P W' .any 0 t r) :
  s.post enc P f apart fresh handsOn again W args v W':=by
 have hlt:∀ p∈before,p.block < W.heap.size:=fun p hp=>hW.lt p hp
 have hold:∀ p∈before,(fun b=>decide (b < W.heap.size)) p.block=true:=fun p hp=>by simpa using hlt p hp
 refine ⟨ds,gs,before,[],pa,pv,hW,hres _ _ _,hargs _ hold,hvars _ hold,World.keptBut_mono (fun p hp=>⟨hp,?_⟩) (hb.frame (·∈before)),fun _=>?_⟩
 ·rw [hps,List.mem_append] at hp
  exact Or.inr hp
 ·obtain ⟨_,_,_,_,_,hz,hn⟩:=hW
  refine ⟨hok,_,_,([]++pa)++pv,⟨[]++pa,pv,trodAll_append (hargs _ (fun _ _=>rfl)) (hres _ _ _),hvars _ (fun _ _=>rfl),rfl,?_,?_⟩,?_⟩
  ·intro b off hp
   have hin:MemPlace.cell b off∈before:=by rw [hps];simpa using hp
   rw [hb.frozen (hlt _ hin)]
   exact hz b off hin
  ·intro ha
   have:=hn ha
   rw [hps] at this
   simpa using this
  ·intro p hp _
   rw [hps]
   simpa using hp
end
end Go.Xw
namespace Go.Xg
open Go.RowKit Go.Xw
class PtrT (P:Program) (t:TypeId):Prop where
 und:∃ e j,P.underlying t=some (.pointer e)∧P.info? e=some j
theorem PtrT.mk' {P:Program} {t e:TypeId} (h:P.underlying t=some (.pointer e)) (k:(P.info? e).isSome=true):PtrT P t:=⟨e,(P.info? e).get k,h,by simp⟩
section
variable {P:Program} {m:Nat} {Q:GPost} {fr:List GV} {Γ:List Ob} {ops:Array Oper} {rest:List Oper} {d:Option Tmp} {op:Op} {ty:TypeId} {pos:String} {af:Array Edge}
theorem YG.eqNil {x y:Operand} {t t':TypeId} [hT:PtrT P t] {i o:Nat} (hx:gev fr x=.loc i o) (hy:gev fr y=.v (.pointer none)):YG P (.binOp .eql t x y t') fr Γ (.v (.bool false)):=fun B K β w l hI hF=>by
 have h:=hF.ev x;rw [hx] at h
 generalize hv:ev l x=v at h
 cases h with
 | loc _ _ b hb =>
  obtain ⟨e,j,h1,h2⟩:=hT.und
  have hp:P.pointee t=e:=by simp [Program.pointee,h1]
  have:=run_eql_pointer_nil (P:=P) w t (some ⟨b,o,none⟩) (by rw [hp];exact h1)
  refine ⟨_,fun d ty pos af=>?_,.v _⟩
  simp [execOp,eqGuard,hv,hF.evv hy,this]
theorem YG.nePtr {x y:Operand} {t t':TypeId} [hT:PtrT P t] {i o:Nat} (hx:gev fr x=.loc i o) (hy:gev fr y=.loc i o):YG P (.binOp .neq t x y t') fr Γ (.v (.bool false)):=fun B K β w l hI hF=>by
 have h:=hF.ev x;rw [hx] at h
 have h':=hF.ev y;rw [hy] at h'
 generalize hv:ev l x=v at h
 generalize hv':ev l y=v' at h'
 cases h with
 | loc _ _ b hb =>
  cases h' with
  | loc _ _ b' hb' =>
   rw [hb] at hb';cases hb'
   obtain ⟨e,j,h1,h2⟩:=hT.und
   have:=Lib.run_neq_ptr_same (P:=P) w ⟨b,o,none⟩ h1 h2
   refine ⟨_,fun d ty pos af=>?_,.v _⟩
   simp [execOp,eqGuard,hv,hv',this]
theorem Inv.again {B:Bs} {K:Fz} {β:Bt} {Γ:List Ob} {w w':World} {i E k:Nat} {rows:List (List GV)} {x:Value} {xs:List Value} (h:Inv B K β Γ w) (hi:Γ[i]?=some (.vech E k rows x)) (ho:Own w' 0 E k x rows.length xs) (hr:RelL K β xs rows.flatten)
  (hx:Ext (fun b=>x.ownBlock=some b) w w'):Inv B K β Γ w':=by
 obtain ⟨xs0,h1,h2,h3,h4,h5⟩:=h.ob i _ hi
 have hbk:∀ b,x.ownBlock=some b→(β i).blk=some b:=fun b hb=>by rw [h1];exact hb
 refine ⟨h.ext.step hx (fun j hj=>(h.own i j (hbk j hj)).symm),h.kle,h.ble,h.loc,h.fz.ext hx (fun b o g hg he=>by rw [h5 b he o] at hg;cases hg),fun j y hj=>?_,h.out,h.dis,h.own,h.kn,h.tab.step hx (fun j hj=>⟨i,hbk j hj⟩) (KLe.refl K) (fun i b2 h=>.inl ⟨i,h⟩)⟩
 by_cases hji:j=i
 ·subst hji
  rw [hi] at hj;cases hj
  exact ⟨xs,h1,ho,hr,h4,h5⟩
 ·exact (h.ob j y hj).ext hx (fun b hb he=>hji (h.dis j i b hb (hbk b he))) (KLe.refl K) (BLe.refl β) rfl (fun _ _ _ h=>h)
theorem GL.appSH {s x:Operand} {t u e:Nat} [hT:ApB P t e] [hU:StrT P u] (i:Nat) {n:Nat} {dt:Tmp} {v:Value} {rows:List (List GV)} {str:Str} (hx:gev fr x=.v (sv str)) (hs:gev fr s=.v v) (hΓ:Γ[i]?=some (.vech e 1 rows v)) (hn:rows.length=n) (hne:str.isEmpty=false)
  (hb:n+str.length≤140737488355328)
  (h:∀ a c,GL P m ops Q rest (gput fr (some dt) (.v (.slice a (n+str.length) c))) (oset Γ i (.vech e 1 (rows++brows str) (.slice a (n+str.length) c)))) :
  GL P m ops Q (⟨some dt,.call ⟨.builtin .append,#[s,x],#[t,u]⟩,ty,pos,af,none⟩::rest) fr Γ:=fun B K β w l hm hI hF=>by
 subst hn
 have hne:str≠[]:=by intro h0;rw [h0] at hne;cases hne
 obtain ⟨xs,o1,o2,o3,o4,o5⟩:=hI.ob i _ hΓ
 have hsv:ev l s=v:=hF.evv hs
 have hfl:(brows str).flatten=str.map fun c=>GV.v (.int .u8 (c.toNat:Int)):=by
  unfold brows
  clear hx hne hb h
  generalize str=s
  induction s with
  | nil=>rfl
  | cons c r ih=>simp only [List.map_cons,List.flatten_cons,ih];rfl
 have hlen:(brows str).length=str.length:=by simp [brows]
 refine WL.appS (base:=0) (v:=v) (n:=rows.length) (xs:=xs) (str:=str) hsv o2 (hF.evv hx) hb (Nat.zero_le _) ?_
 intro v' w' how hext hfr hor
 obtain ⟨K',hK,hβ,hI'⟩:=(hI.unhide hΓ).grow (fz:=0) (oset_get hΓ) o1 ⟨o2,o3⟩ (news:=brows str) (ns:=bcells str) (by rw [hlen];exact how) hext hfr (by rw [hfl];exact (by
   have:(str.map fun c=>GV.v (.int .u8 (c.toNat:Int)))=vs1 (bcells str):=by simp [vs1,bcells]
   rw [this];exact RelL.self)) (fun r hr=>by
   simp only [brows,List.mem_map] at hr
   obtain ⟨c,_,rfl⟩:=hr
   exact ⟨rfl,fun g hg=>by rw [List.mem_singleton] at hg;subst hg;rfl⟩) (by intro h0;exact hne (List.map_eq_nil_iff.1 h0)) (fun b hb' o v ho hv=>by omega)
 rw [←oset_eq,oset_oset] at hI'
 obtain ⟨a,c,hbβ,hI2⟩:=hI'.hide (oset_get hΓ)
 rw [oset_oset] at hI2
 obtain ⟨a',c',rfl⟩:=how.shape
 rw [setβ_same] at hbβ
 simp only [List.length_append,hlen] at hbβ hI2 hβ
 cases hbβ
 exact h _ _ B K' _ w' _ hm hI2 ((hF.mono hK hβ).put (some dt) (.v _))
theorem GL.appS0 {s x:Operand} {t u e:Nat} [hT:ApB P t e] [hU:StrT P u] (i:Nat) {rows:List (List GV)} {v:Value} (hx:gev fr x=.v (sv [])) (hs:gev fr s=.v v) (hΓ:Γ[i]?=some (.vech e 1 rows v)) (hb:rows.length≤140737488355328)
  (h:GL P m ops Q rest (gput fr d (.v v)) Γ):GL P m ops Q (⟨d,.call ⟨.builtin .append,#[s,x],#[t,u]⟩,ty,pos,af,none⟩::rest) fr Γ:=fun B K β w l hm hI hF=>by
 obtain ⟨xs,o1,o2,o3,o4,o5⟩:=hI.ob i _ hΓ
 have hsv:=hF.evv hs
 have hxv:=hF.evv hx
 obtain ⟨hu,i',hi,hz,hsz,hby⟩:=hT.is
 have hs0:(⟨([]:Str).toArray⟩:ByteArray).size=0:=rfl
 obtain ⟨v',w',hr,h2,h3,h4⟩:=Lib.run_append_own_string (P:=P) w 0 t u ty e i' hu hU.und hi hz hsz hby v rows.length xs o2 ⟨([]:Str).toArray⟩ (by rw [hs0];simp only [maxLen];omega) (by rw [hs0];omega) (Nat.zero_le _)
 have hv':v'=v:=by
  rcases o2.2 with ⟨rfl,h6⟩ | ⟨g,cap,cur,rfl,hbg,hg,hnc,hcm,hcs,htake⟩
  ·exact h4.2 ⟨rfl,rfl⟩
  ·have hcs':cur.size=cap:=by simpa using hcs
   have hr2:=Lib.run_append_room_string (P:=P) w t u ty e i' hu hU.und hi hsz g rows.length cap cur hg ⟨([]:Str).toArray⟩ (by rw [hs0];omega) (by unfold maxLen at hcm;rw [hs0];omega)
   rw [hr] at hr2
   cases hr2
   rfl
 subst hv'
 have hrun:(Builtin.append_ #[t,u] ty #[v',sv []]).run P w=.ok v' w':=hr
 have hcs:Lib.strCells ⟨([]:Str).toArray⟩=[]:=rfl
 rw [hcs,List.append_nil] at h2
 have hext:Ext (fun b=>v'.ownBlock=some b) w w':=⟨h3.os,h3.tape,h3.output,h3.size,fun j hj hn=>h3.block j hj fun he=>hn he.symm⟩
 have hI':=hI.again hΓ h2 o3 hext
 exact WL.val (v:=v') (w':=w') (by simp [execOp,resolve,invoke,builtin,hsv,hxv,hrun]) (h B K β w' _ hm hI' (hF.put d (.v _)))
theorem YG.sldata {x:Operand} {t:TypeId} (i:Nat) {E n c:Nat} {a:Option Addr} {rows:List (List GV)} (hx:gev fr x=.v (.slice a n c)) (hΓ:Γ[i]?=some (.vech E 1 rows (.slice a n c))) (hn:rows.length=n) (hp:Nat.blt 0 n=true) :
  YG P (.call ⟨.builtin .unsafeSliceData,#[x],#[t]⟩) fr Γ (.vp i n 1 0 0):=fun B K β w l hI hF=>by
 subst hn
 have hp:0 < rows.length:=by simpa using hp
 obtain ⟨xs,h1,h2,h3,h4,h5⟩:=hI.ob i _ hΓ
 have hv:=hF.evv hx
 rcases h2.2 with ⟨h8,h9⟩ | ⟨g,cap,cur,h8,_,hg,hnc,_⟩
 ·omega
 ·cases h8
  have hr:=fun ts ty=>Lib.run_unsafeSliceData_row (P:=P) (w:=w) ts ty ⟨g,0,none⟩ rows.length c (by omega)
  exact ⟨.pointer (some ⟨g,0,none⟩),fun d ty pos af=>by simp [execOp,resolve,invoke,builtin,hv,hr],.vp i _ 1 0 0 _ ⟨_,_,h1,Nat.le_refl _,fun _=>⟨g,rfl,by simp⟩⟩⟩
theorem GL.unsafeStr {x y:Operand} {pt it e:TypeId} (i:Nat) {str:Str} {rows:List (List GV)} {v:Value} (hp:P.underlying pt=some (.pointer e)) (hc:P.cellsOf e=1) (hx:gev fr x=.vp i str.length 1 0 0) (hy:gev fr y=.v (ii str.length)) (hΓ:Γ[i]?=some (.vech e 1 rows v)) (hrows:rows=brows str)
  (hne:str.isEmpty=false) (hb:str.length≤140737488355328)
  (h:GL P m ops Q rest (gput fr d (.v (sv str))) (oset Γ i .lost)):GL P m ops Q (⟨d,.call ⟨.builtin .unsafeString,#[x,y],#[pt,it]⟩,ty,pos,af,none⟩::rest) fr Γ:=fun B K β w l hm hI hF=>by
 have hne:str≠[]:=by intro h0;rw [h0] at hne;cases hne
 subst hrows
 obtain ⟨xs,o1,o2,o3,o4,o5⟩:=hI.ob i _ hΓ
 have hlen:(brows str).length=str.length:=by simp [brows]
 have hr:=hF.ev x;rw [hx] at hr
 have hyv:=hF.evv hy
 generalize hv:ev l x=u at hr
 cases hr with
 | vp _ _ _ _ _ _ hh =>
  obtain ⟨h0,mm,e1,e2,e3⟩:=hh
  rw [e1] at o1;cases o1
  obtain ⟨b,hbb,rfl⟩:=e3 hlen
  rcases o2.2 with ⟨h8,h9⟩ | ⟨g,cap,cur,h8,_,hg,hnc,hcm,hcs,htake⟩
  ·rw [hlen] at h9;exact absurd (List.eq_nil_of_length_eq_zero h9) hne
  ·subst h8
   simp only [Value.ownBlock,Option.some.injEq] at hbb;subst hbb
   have hxs:xs=bcells str:=by
    have hfl:(brows str).flatten=vs1 (bcells str):=by
     have:(brows str).flatten=str.map fun c=>GV.v (.int .u8 (c.toNat:Int)):=by
      unfold brows
      generalize str=s
      induction s with
      | nil=>rfl
      | cons c r ih=>simp only [List.map_cons,List.flatten_cons,ih];rfl
     rw [this];simp [vs1,bcells]
    rw [hfl] at o3
    apply List.ext_getElem
    ·have:=o3.1;simpa [vs1] using this
    ·intro j h1 h2
     have:=o3.2 j xs[j] (.v (bcells str)[j]) (by simp [h1]) (by simp [vs1,h2])
     exact Rel.v_inv this
   have hcell:∀ j y,str[j]?=some y→w.cell? ((⟨g,0,none⟩:Addr).add j)=some (.int .u8 y.toNat):=fun j y hy=>by
    have:=World.ownsRow.cells (g:=g) o2 rfl j (.int .u8 y.toNat) (by rw [hxs];simp [bcells,hy])
    exact this
   have hsize:(brows str).length≤cur.size:=by rw [hcs];omega
   have hrun:=Lib.run_unsafeString_row (P:=P) w pt it ty e hp hc g cur.size (by simp [World.shape?,hg]) str hne (by omega) (by omega) hcell
   have hext:Ext (·=g) w (w.freeze ⟨g,0,none⟩ str.length):=by
    have:=Lib.below_freeze (Below.refl 0 w) (p:=⟨g,0,none⟩) (Nat.zero_le g) str.length
    exact ⟨this.os,this.tape,this.output,this.size,fun k hk hn=>by
     unfold World.freeze
     split
     ·rfl
     ·simp only [Array.getElem?_modify]
      rw [if_neg (fun he=>hn he.symm)]⟩
   have hbk:(β i).blk=some g:=by rw [e1];rfl
   have hI':Inv B K β (oset Γ i .lost) (w.freeze ⟨g,0,none⟩ str.length):=by
    refine ⟨hI.ext.step hext (fun j hj=>by subst hj;exact (hI.own i _ hbk).symm),hI.kle,hI.ble,hI.loc,hI.fz.ext hext (fun b o g' hg' he=>by subst he;rw [o5 _ rfl o] at hg';cases hg'),fun j y hj=>?_,fun j hj=>hI.out j (by simpa [oset_eq] using hj),hI.dis,hI.own,hI.kn,hI.tab.step hext (fun j hj=>⟨i,by subst hj;exact hbk⟩) (KLe.refl K) (fun i b2 h=>.inl ⟨i,h⟩)⟩
    rw [oset_eq,List.getElem?_set] at hj
    split at hj
    ·rename_i hij
     split at hj
     ·cases hj;subst hij
      intro b hb'
      rw [hbk] at hb';cases hb'
      have:=lt_of_blk hg
      exact Nat.lt_of_lt_of_le this hext.size
     ·cases hj
    ·rename_i hij
     exact (hI.ob j y hj).ext hext (fun b hb he=>by subst he;exact hij (hI.dis i j _ hbk hb)) (KLe.refl K) (BLe.refl β) rfl (fun _ _ _ h=>h)
   exact WL.val (v:=sv str) (w':=w.freeze ⟨g,0,none⟩ str.length) (by simp [execOp,resolve,invoke,builtin,hv,hyv,hrun,sv]) (h B K β _ _ hm hI' (hF.put d (.v _)))
theorem Inv.addAt {B:Bs} {K:Fz} {β:Bt} {Γ:List Ob} {w:World} {x:Bk} {y:Ob} (h:Inv B K β Γ w) (hd:∀ b,x.blk=some b→(∀ i,(β i).blk≠some b)∧B.w0.heap.size≤b∧(b≠1∧b≠2))
  (ho:ObOk K (setβ β Γ.length x) w Γ.length y) (hold:BLe β (setβ β Γ.length x)):Inv B K (setβ β Γ.length x) (Γ++[y]) w:=by
 refine ⟨h.ext,h.kle,h.ble.trans hold,h.loc,h.fz,fun i z hi=>?_,fun i hi=>?_,fun i j b hi hj=>?_,fun i b hi=>?_,h.kn,⟨h.tab.le,h.tab.pow,h.tab.spc,fun i b hi=>?_⟩⟩
 ·by_cases hil:i < Γ.length
  ·rw [List.getElem?_append_left hil] at hi
   exact (h.ob i z hi).ext (S:=none') (Ext.refl w) (fun _ _ h=>h) (KLe.refl K) hold (setβ_ne (by omega)) (fun _ _ _ h=>h)
  ·have:i=Γ.length:=by have:=(List.getElem?_eq_some_iff.1 hi).1;simp at this;omega
   subst this
   simp at hi;subst hi
   exact ho
 ·simp at hi
  rw [setβ_ne (by omega)];exact h.out i (by omega)
 ·by_cases h1:i=Γ.length <;> by_cases h2:j=Γ.length
  ·omega
  ·subst h1;rw [setβ_same] at hi;rw [setβ_ne h2] at hj;exact absurd hj ((hd b hi).1 j)
  ·subst h2;rw [setβ_same] at hj;rw [setβ_ne h1] at hi;exact absurd hi ((hd b hj).1 i)
  ·rw [setβ_ne h1] at hi;rw [setβ_ne h2] at hj;exact h.dis i j b hi hj
 ·rcases setβ_blk hi with h1 | h1
  ·exact .inr (hd b h1).2.1
  ·exact h.own i b h1
 ·rcases setβ_blk hi with h1 | h1
  ·exact (hd b h1).2.2
  ·exact h.tab.free i b h1
theorem YG.subSl {x lo:Operand} {t e:TypeId} {k:Nat} [hT:SlT P t e k] {rows:List (List GV)} {kk:IntKind} {i:Nat} (hx:gev fr x=.sl k rows) (hlo:gev fr lo=.v (.int kk i)) (hi:Nat.blt i rows.length=true):YG P (.slice t x (some lo) none none) fr Γ (.sl k (rows.drop i)):=fun B K β w l hI hF=>by
 have hi:i < rows.length:=by simpa using hi
 have h:=hF.ev x;rw [hx] at h
 have hlv:=hF.evv hlo
 generalize hv:ev l x=v at h
 cases h with
 | sl0 a c=>simp at hi
 | sl b o c _ _ h hc =>
  refine ⟨.slice (some ⟨b,o+i * k,none⟩) (rows.length - i) (c - i),fun d ty pos af=>?_,?_⟩
  ·have hci:¬ (c=i):=by omega
   have hle:(i:Int)≤(rows.length:Int):=by omega
   simp [execOp,Instr.sliceAt,Instr.slice,Instr.sliceBounds,Instr.sliceBound,asIntOf,hv,hlv,run_underlying hT.und,run_sizeOf' hT.siz,hci,Nat.le_of_lt hi,add_mk]
  ·have:=Rel.sl (K:=K) (β:=β) b (o+i * k) (c - i) k (rows.drop i) (fun j r hr=>?_) (by simp;omega)
   ·rw [List.length_drop] at this;exact this
   ·rw [List.getElem?_drop] at hr
    refine ⟨(h (i+j) r hr).1,fun q g hg=>?_⟩
    have:=(h (i+j) r hr).2 q g hg
    rw [Nat.add_mul] at this
    rw [show o+i * k+j * k+q=o+(i * k+j * k)+q by omega];exact this
theorem YG.subSlC {x lo:Operand} {t e:TypeId} {k:Nat} [hT:SlT P t e k] {rows:List (List GV)} {kk:IntKind} {n:Int} (i:Nat) (hx:gev fr x=.sl k rows) (hlo:gev fr lo=.v (.int kk n)) (hn:n=(i:Int)) (hi:Nat.blt i rows.length=true):YG P (.slice t x (some lo) none none) fr Γ (.sl k (rows.drop i)):=by
 subst hn;exact YG.subSl hx hlo hi
end
end Go.Xg
namespace Go.Proofs
open Go.Shelf
def Tryz.lays165_ren:Go.Shelf.Ren:=⟨fun | 165=>149 | 240=>191 | 241=>192 | 276=>219 | 277=>220 | n=>n,fun | 70=>170 | 3=>3 | 0=>0 | 4=>4 | 9=>9 | 20=>20 | 72=>172 | 37=>22 | 164=>219 | 5=>5 | n=>n,fun | n=>n⟩
theorem Tryz.lays165:Go.Proofs.Lays.n165 Tryz.prog Tryz.lays165_ren:={
 mixed:=by kernel_rfl
 f165:=Tryz.func149.trans (congrArg some (by kernel_rfl))
 f240:=Tryz.func191.trans (congrArg some (by kernel_rfl))
 f241:=Tryz.func192.trans (congrArg some (by kernel_rfl))
 f276:=Tryz.func219.trans (congrArg some (by kernel_rfl))
 f277:=Tryz.func220.trans (congrArg some (by kernel_rfl))
 t0:=Tryz.underlying0
 a0:=Tryz.isAgg0
 z0:=Tryz.sizeOf0
 v0:=Tryz.zeroValue0
 t3:=Tryz.underlying3
 a3:=Tryz.isAgg3
 z3:=Tryz.sizeOf3
 v3:=Tryz.zeroValue3
 t4:=Tryz.underlying4
 a4:=Tryz.isAgg4
 z4:=Tryz.sizeOf4
 v4:=Tryz.zeroValue4
 t9:=Tryz.underlying9
 a9:=Tryz.isAgg9
 z9:=Tryz.sizeOf9
 v9:=Tryz.zeroValue9
 t20:=Tryz.underlying20
 a20:=Tryz.isAgg20
 z20:=Tryz.sizeOf20
 v20:=Tryz.zeroValue20
 t37:=Tryz.underlying22
 a37:=Tryz.isAgg22
 z37:=Tryz.sizeOf22
 v37:=Tryz.zeroValue22
 t70:=Tryz.underlying170
 a70:=Tryz.isAgg170
 z70:=Tryz.sizeOf170
 v70:=Tryz.zeroValue170
 t72:=Tryz.underlying172
 a72:=Tryz.isAgg172
 z72:=Tryz.sizeOf172
 v72:=Tryz.zeroValue172
 t164:=Tryz.underlying219
 a164:=Tryz.isAgg219
 z164:=Tryz.sizeOf219
 v164:=Tryz.zeroValue219 }
theorem Tryz.Builder_Extra_165:Builder.Extra Tryz.prog Tryz.lays165_ren:={
 sizeBuilder:=by kernel_rfl
 liesBuilder:=by kernel_rfl
 t5:=Tryz.underlying5
 a5:=Tryz.isAgg5
 z5:=Tryz.sizeOf5
 v5:=Tryz.zeroValue5
 infoByte:=by kernel_rfl
 cellsByte:=by kernel_rfl
 sizeByte:=by kernel_rfl
 neB5:=by decide }
open Go.RowKit in
theorem Tryz.Builder_Grow_fresh (B b n:Nat) (w:World) (hB:B≤b) (hbk:w.heap[b]?=some (.cells #[.pointer none,.slice none 0 0] 172 (0,0))) (hBw:B≤w.heap.size) (hn:n≤281474976710656) :
  Calls Tryz.prog 149 #[.pointer (some ⟨b,0,none⟩),.int .i64 n] w fun e w'=>e=.returned (.tuple #[])∧(Lib.BuilderAt 172 5 B b (.pointer (some ⟨b,0,none⟩)) [] w'∧Below B w w'):=Any.Builder_Grow_fresh Tryz.lays165 Tryz.Builder_Extra_165 B b n w hB hbk hBw hn
def Tryz.lays137_ren:Go.Shelf.Ren:=⟨fun | 137=>122 | 217=>164 | 266=>199 | n=>n,fun | 9=>9 | 5=>5 | 3=>3 | n=>n,fun | n=>n⟩
theorem Tryz.lays137:Go.Proofs.Lays.n137 Tryz.prog Tryz.lays137_ren:={
 mixed:=by kernel_rfl
 f137:=Tryz.func122.trans (congrArg some (by kernel_rfl))
 f217:=Tryz.func164.trans (congrArg some (by kernel_rfl))
 f266:=Tryz.func199.trans (congrArg some (by kernel_rfl))
 t3:=Tryz.underlying3
 a3:=Tryz.isAgg3
 z3:=Tryz.sizeOf3
 v3:=Tryz.zeroValue3
 t5:=Tryz.underlying5
 a5:=Tryz.isAgg5
 z5:=Tryz.sizeOf5
 v5:=Tryz.zeroValue5
 t9:=Tryz.underlying9
 a9:=Tryz.isAgg9
 z9:=Tryz.sizeOf9
 v9:=Tryz.zeroValue9 }
open Go.RowKit in
theorem Tryz.strings_IndexByte (s:ByteArray) (c:Int) (w:World) :
  Calls Tryz.prog 122 #[.string s,.int .u8 c] w fun e w'=>e=.returned (.int .i64 (Lib.indexByte s.data.toList c.toNat.toUInt8))∧w'=w:=Any.strings_IndexByte Tryz.lays137 s c w
def Tryz.laysM246_ren:Go.Shelf.Ren:=⟨fun | 246=>172 | 283=>201 | 284=>202 | 285=>203 | 286=>204 | 129=>223 | 317=>222 | 318=>224 | 319=>225 | 320=>226 | 337=>231 | 338=>232 | n=>n,fun | 2=>2 | 3=>3 | 9=>9 | 4=>4 | 171=>210 | 0=>0 | 53=>204 | 37=>22 | 5=>5 | 173=>213 | 212=>224 | 51=>201 | 20=>20 | 213=>225 | 46=>144 | 232=>237 | 233=>238 | n=>n,fun | 17=>1 | 18=>4 | 19=>5 | n=>n⟩
def Tryz.laysM243_ren:Go.Shelf.Ren:=⟨fun | 243=>126 | 246=>172 | 283=>201 | 284=>202 | 285=>203 | 286=>204 | 129=>223 | 317=>222 | 318=>224 | 319=>225 | 320=>226 | 337=>231 | 338=>232 | n=>n,fun | 3=>3 | 9=>9 | 2=>2 | 4=>4 | 171=>210 | 0=>0 | 53=>204 | 37=>22 | 5=>5 | 173=>213 | 212=>224 | 51=>201 | 20=>20 | 213=>225 | 46=>144 | 232=>237 | 233=>238 | n=>n,fun | 17=>1 | 18=>4 | 19=>5 | n=>n⟩
def Tryz.laysM171_ren:Go.Shelf.Ren:=⟨fun | 171=>84 | 243=>126 | 246=>172 | 283=>201 | 284=>202 | 285=>203 | 286=>204 | 129=>223 | 317=>222 | 318=>224 | 319=>225 | 320=>226 | 337=>231 | 338=>232 | n=>n,fun | 3=>3 | 9=>9 | 2=>2 | 4=>4 | 171=>210 | 0=>0 | 53=>204 | 37=>22 | 5=>5 | 173=>213 | 212=>224 | 51=>201 | 20=>20 | 213=>225 | 46=>144 | 232=>237 | 233=>238 | n=>n,fun | 17=>1 | 18=>4 | 19=>5 | n=>n⟩
theorem Tryz.laysM171:Go.Proofs.LaysM.n171 Tryz.prog Tryz.laysM171_ren:={
 mixed:=by kernel_rfl
 f129:=Tryz.func223.trans (congrArg some (by kernel_rfl))
 f171:=Tryz.func84.trans (congrArg some (by kernel_rfl))
 f243:=Tryz.func126.trans (congrArg some (by kernel_rfl))
 f246:=Tryz.func172.trans (congrArg some (by kernel_rfl))
 f283:=Tryz.func201.trans (congrArg some (by kernel_rfl))
 f284:=Tryz.func202.trans (congrArg some (by kernel_rfl))
 f285:=Tryz.func203.trans (congrArg some (by kernel_rfl))
 f286:=Tryz.func204.trans (congrArg some (by kernel_rfl))
 f317:=Tryz.func222.trans (congrArg some (by kernel_rfl))
 f318:=Tryz.func224.trans (congrArg some (by kernel_rfl))
 f319:=Tryz.func225.trans (congrArg some (by kernel_rfl))
 f320:=Tryz.func226.trans (congrArg some (by kernel_rfl))
 f337:=Tryz.func231.trans (congrArg some (by kernel_rfl))
 f338:=Tryz.func232.trans (congrArg some (by kernel_rfl))
 t0:=Tryz.underlying0
 a0:=Tryz.isAgg0
 z0:=Tryz.sizeOf0
 v0:=Tryz.zeroValue0
 t2:=Tryz.underlying2
 a2:=Tryz.isAgg2
 z2:=Tryz.sizeOf2
 v2:=Tryz.zeroValue2
 t3:=Tryz.underlying3
 a3:=Tryz.isAgg3
 z3:=Tryz.sizeOf3
 v3:=Tryz.zeroValue3
 t4:=Tryz.underlying4
 a4:=Tryz.isAgg4
 z4:=Tryz.sizeOf4
 v4:=Tryz.zeroValue4
 t5:=Tryz.underlying5
 a5:=Tryz.isAgg5
 z5:=Tryz.sizeOf5
 v5:=Tryz.zeroValue5
 t9:=Tryz.underlying9
 a9:=Tryz.isAgg9
 z9:=Tryz.sizeOf9
 v9:=Tryz.zeroValue9
 t20:=Tryz.underlying20
 a20:=Tryz.isAgg20
 z20:=Tryz.sizeOf20
 v20:=Tryz.zeroValue20
 t37:=Tryz.underlying22
 a37:=Tryz.isAgg22
 z37:=Tryz.sizeOf22
 v37:=Tryz.zeroValue22
 t46:=Tryz.underlying144
 a46:=Tryz.isAgg144
 z46:=Tryz.sizeOf144
 v46:=Tryz.zeroValue144
 t51:=Tryz.underlying201
 a51:=Tryz.isAgg201
 z51:=Tryz.sizeOf201
 v51:=Tryz.zeroValue201
 t53:=Tryz.underlying204
 a53:=Tryz.isAgg204
 z53:=Tryz.sizeOf204
 v53:=Tryz.zeroValue204
 t171:=Tryz.underlying210
 a171:=Tryz.isAgg210
 z171:=Tryz.sizeOf210
 v171:=Tryz.zeroValue210
 t173:=Tryz.underlying213
 a173:=Tryz.isAgg213
 z173:=Tryz.sizeOf213
 v173:=Tryz.zeroValue213
 t212:=Tryz.underlying224
 a212:=Tryz.isAgg224
 z212:=Tryz.sizeOf224
 v212:=Tryz.zeroValue224
 t213:=Tryz.underlying225
 a213:=Tryz.isAgg225
 z213:=Tryz.sizeOf225
 t232:=Tryz.underlying237
 a232:=Tryz.isAgg237
 z232:=Tryz.sizeOf237
 v232:=Tryz.zeroValue237
 t233:=Tryz.underlying238
 a233:=Tryz.isAgg238
 z233:=Tryz.sizeOf238
 v233:=Tryz.zeroValue238
 g17:=by kernel_rfl
 g18:=by kernel_rfl
 g19:=by kernel_rfl
 i0:=by kernel_rfl
 i2:=by kernel_rfl
 i3:=by kernel_rfl
 i4:=by kernel_rfl
 i5:=by kernel_rfl
 i9:=by kernel_rfl
 i20:=by kernel_rfl
 i37:=by kernel_rfl
 i46:=by kernel_rfl
 i51:=by kernel_rfl
 i53:=by kernel_rfl
 i171:=by kernel_rfl
 i173:=by kernel_rfl
 i212:=by kernel_rfl
 i232:=by kernel_rfl
 i233:=by kernel_rfl
 m17:=by kernel_rfl
 m18:=by kernel_rfl
 m19:=by kernel_rfl }
open Go.RowKit Go.Sort Go.Lib in
theorem Tryz.strconv_Itoa (n:Int) (h0 : -9223372036854775808≤n) (h1:n≤9223372036854775807) (w:World) (htab:Lib.TabIs Tryz.prog w "internal/strconv.uint64pow10" .u64 Lib.pow10Tab) :
  Calls Tryz.prog 84 #[.int .i64 n] w fun e w'=>e=.returned (.string ⟨(Lib.itoa n).toArray⟩)∧∃ k os,w'=grow (w.drewN k) os:=Any.strconv_Itoa Tryz.laysM171 n h0 h1 w htab
def Tryz.lays219_ren:Go.Shelf.Ren:=⟨fun | 219=>148 | 217=>164 | 225=>188 | 224=>189 | 267=>190 | 266=>199 | 314=>218 | n=>n,fun | 9=>9 | 3=>3 | 4=>4 | 5=>5 | 46=>144 | 146=>202 | 51=>201 | n=>n,fun | 1=>0 | n=>n⟩
def Tryz.lays143_ren:Go.Shelf.Ren:=⟨fun | 143=>108 | 219=>148 | 217=>164 | 225=>188 | 224=>189 | 267=>190 | 266=>199 | 314=>218 | n=>n,fun | 9=>9 | 3=>3 | 4=>4 | 5=>5 | 46=>144 | 146=>202 | 51=>201 | n=>n,fun | 1=>0 | n=>n⟩
theorem Tryz.lays143:Go.Proofs.Lays.n143 Tryz.prog Tryz.lays143_ren:={
 mixed:=by kernel_rfl
 f143:=Tryz.func108.trans (congrArg some (by kernel_rfl))
 f217:=Tryz.func164.trans (congrArg some (by kernel_rfl))
 f219:=Tryz.func148.trans (congrArg some (by kernel_rfl))
 f224:=Tryz.func189.trans (congrArg some (by kernel_rfl))
 f225:=Tryz.func188.trans (congrArg some (by kernel_rfl))
 f266:=Tryz.func199.trans (congrArg some (by kernel_rfl))
 f267:=Tryz.func190.trans (congrArg some (by kernel_rfl))
 f314:=Tryz.func218.trans (congrArg some (by kernel_rfl))
 t3:=Tryz.underlying3
 a3:=Tryz.isAgg3
 z3:=Tryz.sizeOf3
 v3:=Tryz.zeroValue3
 t4:=Tryz.underlying4
 a4:=Tryz.isAgg4
 z4:=Tryz.sizeOf4
 v4:=Tryz.zeroValue4
 t5:=Tryz.underlying5
 a5:=Tryz.isAgg5
 z5:=Tryz.sizeOf5
 v5:=Tryz.zeroValue5
 t9:=Tryz.underlying9
 a9:=Tryz.isAgg9
 z9:=Tryz.sizeOf9
 v9:=Tryz.zeroValue9
 t46:=Tryz.underlying144
 a46:=Tryz.isAgg144
 z46:=Tryz.sizeOf144
 v46:=Tryz.zeroValue144
 t51:=Tryz.underlying201
 a51:=Tryz.isAgg201
 z51:=Tryz.sizeOf201
 v51:=Tryz.zeroValue201
 t146:=Tryz.underlying202
 a146:=Tryz.isAgg202
 z146:=Tryz.sizeOf202
 v146:=Tryz.zeroValue202
 g1:=by kernel_rfl }
open Go.RowKit Go.Lib in
theorem Tryz.strings_Index (s sub:ByteArray) (m:Int) (w:World) (hs:s.size < 4294967281) (hm:w.cell? ⟨0,0,none⟩=some (.int .i64 m)) :
  Calls Tryz.prog 108 #[.string s,.string sub] w fun e w'=>e=.returned (.int .i64 (Lib.index s.data.toList sub.data.toList))∧w'=w:=Any.strings_Index Tryz.lays143 s sub m w hs hm
def Tryz.lays157_ren:Go.Shelf.Ren:=⟨fun | 157=>221 | 229=>229 | 199=>230 | 261=>235 | 311=>238 | 312=>239 | n=>n,fun | 9=>9 | 31=>23 | 3=>3 | 5=>5 | 4=>4 | 119=>228 | 0=>0 | 40=>230 | 152=>232 | 21=>21 | 154=>234 | 51=>201 | 141=>236 | 196=>244 | 193=>241 | 198=>247 | 49=>245 | 194=>242 | 201=>250 | 226=>253 | 46=>144 | 227=>254 | n=>n,fun | 0=>2 | 6=>3 | n=>n⟩
def Tryz.laysM157_ren:Go.Shelf.Ren:=⟨fun | 157=>221 | 229=>229 | 199=>230 | 261=>235 | 311=>238 | 312=>239 | n=>n,fun | 9=>9 | 31=>23 | 3=>3 | 5=>5 | 4=>4 | 119=>228 | 0=>0 | 40=>230 | 152=>232 | 21=>21 | 154=>234 | 51=>201 | 141=>236 | 196=>244 | 193=>241 | 198=>247 | 49=>245 | 194=>242 | 201=>250 | 226=>253 | 46=>144 | 227=>254 | n=>n,fun | 0=>2 | 6=>3 | n=>n⟩
theorem Tryz.laysM157:Go.Proofs.LaysM.n157 Tryz.prog Tryz.laysM157_ren:={
 mixed:=by kernel_rfl
 f157:=Tryz.func221.trans (congrArg some (by kernel_rfl))
 f199:=Tryz.func230.trans (congrArg some (by kernel_rfl))
 f229:=Tryz.func229.trans (congrArg some (by kernel_rfl))
 f261:=Tryz.func235.trans (congrArg some (by kernel_rfl))
 f311:=Tryz.func238.trans (congrArg some (by kernel_rfl))
 f312:=Tryz.func239.trans (congrArg some (by kernel_rfl))
 t0:=Tryz.underlying0
 a0:=Tryz.isAgg0
 z0:=Tryz.sizeOf0
 v0:=Tryz.zeroValue0
 t3:=Tryz.underlying3
 a3:=Tryz.isAgg3
 z3:=Tryz.sizeOf3
 v3:=Tryz.zeroValue3
 t4:=Tryz.underlying4
 a4:=Tryz.isAgg4
 z4:=Tryz.sizeOf4
 v4:=Tryz.zeroValue4
 t5:=Tryz.underlying5
 a5:=Tryz.isAgg5
 z5:=Tryz.sizeOf5
 v5:=Tryz.zeroValue5
 t9:=Tryz.underlying9
 a9:=Tryz.isAgg9
 z9:=Tryz.sizeOf9
 v9:=Tryz.zeroValue9
 t21:=Tryz.underlying21
 a21:=Tryz.isAgg21
 z21:=Tryz.sizeOf21
 v21:=Tryz.zeroValue21
 t31:=Tryz.underlying23
 a31:=Tryz.isAgg23
 z31:=Tryz.sizeOf23
 v31:=Tryz.zeroValue23
 t40:=Tryz.underlying230
 a40:=Tryz.isAgg230
 z40:=Tryz.sizeOf230
 v40:=Tryz.zeroValue230
 t46:=Tryz.underlying144
 a46:=Tryz.isAgg144
 z46:=Tryz.sizeOf144
 v46:=Tryz.zeroValue144
 t49:=Tryz.underlying245
 a49:=Tryz.isAgg245
 z49:=Tryz.sizeOf245
 v49:=Tryz.zeroValue245
 t51:=Tryz.underlying201
 a51:=Tryz.isAgg201
 z51:=Tryz.sizeOf201
 v51:=Tryz.zeroValue201
 t119:=Tryz.underlying228
 a119:=Tryz.isAgg228
 z119:=Tryz.sizeOf228
 t141:=Tryz.underlying236
 a141:=Tryz.isAgg236
 z141:=Tryz.sizeOf236
 v141:=Tryz.zeroValue236
 t152:=Tryz.underlying232
 a152:=Tryz.isAgg232
 z152:=Tryz.sizeOf232
 v152:=Tryz.zeroValue232
 t154:=Tryz.underlying234
 a154:=Tryz.isAgg234
 z154:=Tryz.sizeOf234
 v154:=Tryz.zeroValue234
 t193:=Tryz.underlying241
 a193:=Tryz.isAgg241
 z193:=Tryz.sizeOf241
 v193:=Tryz.zeroValue241
 t194:=Tryz.underlying242
 a194:=Tryz.isAgg242
 z194:=Tryz.sizeOf242
 v194:=Tryz.zeroValue242
 t196:=Tryz.underlying244
 a196:=Tryz.isAgg244
 z196:=Tryz.sizeOf244
 v196:=Tryz.zeroValue244
 t198:=Tryz.underlying247
 a198:=Tryz.isAgg247
 z198:=Tryz.sizeOf247
 v198:=Tryz.zeroValue247
 t201:=Tryz.underlying250
 a201:=Tryz.isAgg250
 z201:=Tryz.sizeOf250
 v201:=Tryz.zeroValue250
 t226:=Tryz.underlying253
 a226:=Tryz.isAgg253
 z226:=Tryz.sizeOf253
 v226:=Tryz.zeroValue253
 t227:=Tryz.underlying254
 a227:=Tryz.isAgg254
 z227:=Tryz.sizeOf254
 v227:=Tryz.zeroValue254
 g0:=by kernel_rfl
 g6:=by kernel_rfl
 i0:=by kernel_rfl
 i3:=by kernel_rfl
 i4:=by kernel_rfl
 i5:=by kernel_rfl
 i9:=by kernel_rfl
 i21:=by kernel_rfl
 i31:=by kernel_rfl
 i40:=by kernel_rfl
 i46:=by kernel_rfl
 i49:=by kernel_rfl
 i51:=by kernel_rfl
 i141:=by kernel_rfl
 i152:=by kernel_rfl
 i154:=by kernel_rfl
 i193:=by kernel_rfl
 i194:=by kernel_rfl
 i196:=by kernel_rfl
 i198:=by kernel_rfl
 i201:=by kernel_rfl
 i226:=by kernel_rfl
 i227:=by kernel_rfl
 m0:=by kernel_rfl
 m6:=by kernel_rfl }
open Go.RowKit Go.Lib in
theorem Tryz.strings_Fields_laid (s:ByteArray) (w:World) (hs:s.size < 4294967281) (hascii:∀ (j:Nat) b,s.data.toList[j]?=some b→b.toNat < 128) (htab:Lib.TabIs Tryz.prog w "strings.asciiSpace" .u8 Lib.asciiSpaceTab) :
  Calls Tryz.prog 221 #[.string s] w fun e w' =>
   e=.returned (.slice (some ⟨w.heap.size,0,none⟩) (Lib.fields s.data.toList).length (Lib.fields s.data.toList).length)∧w'=w.alloc (.cells ((Lib.fields s.data.toList).map fun l=>Value.string ⟨l.toArray⟩).toArray 9):=Any.strings_Fields_laid Tryz.laysM157 s w hs hascii htab
end Go.Proofs
set_option maxHeartbeats 1000000
set_option maxRecDepth 100000
namespace Go.Xg
open Go.RowKit Go.Xw Go.Proofs
attribute [local irreducible] GW GL GO YG GC GA gthn ginb
instance:ApB Tryz.prog 22 5:=ApB.mk' (by kernel_rfl)
instance:PtrT Tryz.prog 170:=PtrT.mk' (e:=172) (by kernel_rfl) (by kernel_rfl)
theorem copyCheck_b (g:Value):GF Tryz.prog 191 [.loc 0 0] [.box 172 [.loc 0 0,.v g]] (.tup []) [.box 172 [.loc 0 0,.v g]]:=by
 refine GC.enter Tryz.func191 Tryz.ntmps191 rfl (by simp only [gframe,grep,Nat.reduceSub];rfl) ?_
 refine w_grun ?_
 refine w_gret0 ?_
 exact ⟨rfl,rfl⟩
theorem WriteString_b (s:Str) (n:Nat) (a:Option Addr) (c:Nat) (rows:List (List GV)) (hn:rows.length=n) (hb:n+s.length≤140737488355328) :
  GC Tryz.prog 150 [.loc 0 0,.v (sv s)] [.box 172 [.loc 0 0,.v (.slice a n c)],.vech 5 1 rows (.slice a n c)] (fun g Γ'=>(∃ x,g=.tup [.v (ii s.length),x])∧∃ a c,Γ'=[.box 172 [.loc 0 0,.v (.slice a (n+s.length) c)],.vech 5 1 (rows++brows s) (.slice a (n+s.length) c)]):=by
 subst hn
 have h:=copyCheck_b (.slice a rows.length c)
 cases s with
 | nil =>
  refine GC.enter Tryz.func150 Tryz.ntmps150 rfl (by simp only [gframe,grep,Nat.reduceSub];rfl) ?_
  refine w_grun ?_
  refine w_gcall [0] (h) ?_
  refine w_grun ?_
  refine GL.appS0 1 rfl rfl rfl (by simpa using hb) ?_
  refine w_gnmb ?_
  refine w_grun ?_
  refine w_gret2 ?_
  exact ⟨⟨_,rfl⟩,a,c,by simp [brows]⟩
 | cons x r =>
  generalize hs:x::r=s at *
  have hne:s.isEmpty=false:=by rw [←hs];rfl
  clear hs
  refine GC.enter Tryz.func150 Tryz.ntmps150 rfl (by simp only [gframe,grep,Nat.reduceSub];rfl) ?_
  refine w_grun ?_
  refine w_gcall [0] (h) ?_
  refine w_grun ?_
  refine GL.appSH 1 rfl rfl rfl (by first | rfl | assumption) (by assumption) (by omega) ?_;intro a2 c2;refine w_gnmb ?_
  refine w_grun ?_
  refine w_gret2 ?_
  exact ⟨⟨_,rfl⟩,a2,c2,rfl⟩
theorem String_b (str:Str) (a:Option Addr) (c:Nat) (h0:str≠[]) (hb:str.length≤140737488355328) :
  GF Tryz.prog 151 [.loc 0 0] [.box 172 [.loc 0 0,.v (.slice a str.length c)],.vech 5 1 (brows str) (.slice a str.length c)] (.v (sv str)) [.box 172 [.loc 0 0,.v (.slice a str.length c)],.lost]:=by
 have hlen:(brows str).length=str.length:=by simp [brows]
 have hp:Nat.blt 0 str.length=true:=by simpa using List.length_pos_iff.2 h0
 have hne:str.isEmpty=false:=by cases str with | nil=>exact absurd rfl h0 | cons _ _=>rfl
 refine GC.enter Tryz.func151 Tryz.ntmps151 rfl (by simp only [gframe,grep,Nat.reduceSub];rfl) ?_
 refine w_grun ?_
 refine GW.draw (.q 0 (.q 1 (.q 2 (.q 3 (.q 4 (.q 5 (.q 6 (.q 7 (.q 8 (.q 9 (.a 10 (.q 11 .nil)))))))))))) (by kernel_rfl) (by kernel_rfl) ?_
 refine w_gorun ?_
 refine w_gounsafe ?_
 refine w_gorun ?_
 refine w_grun ?_
 refine w_gret ?_
 exact ⟨rfl,rfl⟩
end Go.Xg
namespace Go.Xg
open Go.RowKit Go.Xw Go.Proofs
open Go.Xp (joinC)
theorem Ret.of_calls' {P:Program} {f:FuncId} {vs:List Value} {w:World} {R:Value→World→Prop} (h:Calls P f vs.toArray w fun e w'=>∃ v,e=.returned v∧R v w'):Ret P f vs w R:=h
theorem GW.builder {Q:GPost} {fr:List GV} {r1 r2:Nat} {rest:Code} {t8 t56 t57 t5:Tmp} {T1 T2 T3 T4 T5:TypeId} {p1 p2 p3:String} {a1 a2 a3:Array Edge} (n:Nat)
  (h8:inL fr t8=true) (h56:inL fr t56=true) (hne:Nat.beq t8 t56=false) (hne5:Nat.beq t5 t8=false) (hn:gnth fr t5=.v (ii (n:Nat))) (hb:n≤281474976710656)
  (h:∀ a c,GW Tryz.prog 0 rest Q (gupd (gupd (gupd fr t8 (.loc 0 0)) t56 (.v (ii (n:Nat)))) t57 (.v (.tuple #[]))) [.box 172 [.loc 0 0,.v (.slice a 0 c)],.vech 5 1 [] (.slice a 0 c)]) :
  GW Tryz.prog 0 (.seq (.region r1 [(⟨some t8,.alloc 172,T1,p1,a1,none⟩:Oper)].toArray false) (.seq (.region r2 [(⟨some t56,.move (.tmp t5),T2,p2,a2,none⟩:Oper),⟨some t57,.call ⟨.value (.func 149),[Operand.tmp t8,.tmp t56].toArray,#[T3,T4]⟩,T5,p3,a3,none⟩].toArray false) rest)) Q fr []:=fun B K β w l hm hI hF=>by
 have hne':t8≠t56:=by intro e;subst e;simp at hne
 have hne5':t5≠t8:=by intro e;subst e;simp at hne5
 have i8:=inL_of hF h8
 have i56:=inL_of hF h56
 refine W.seq (W.region (WL.alloc (t:=172) fun b w1 hnw=>WL.nil ?_))
 refine W.seq (W.region (WL.v R.mv (WL.call (f:=149) (argv:=[.pointer (some ⟨b,0,none⟩),.int .i64 n]) ?_ (R:=fun x w2=>x=.tuple #[]∧(Lib.BuilderAt 172 5 b b (.pointer (some ⟨b,0,none⟩)) [] w2∧Below b w1 w2)) ?_ fun x w2 hx=>WL.nil ?_)))
 ·have hF1:FR K (setβ β 0 (.fix b)) (gupd fr t8 (.loc 0 0)) (put l (some t8) (.pointer (some ⟨b,0,none⟩))) :=
   (hF.mono (KLe.refl K) (setβ_le (i:=0) (x:=.fix b) (by rw [hI.out 0 (Nat.le_refl _)];trivial))).upd t8 (.loc 0 0 b setβ_same)
  have j56:inL (upd l t8 (.pointer (some ⟨b,0,none⟩))) t56=true:=inL_of hF1 (t:=t56) (by rw [inL_upd];exact h56)
  have e5:nth (upd l t8 (.pointer (some ⟨b,0,none⟩))) t5=.int .i64 n:=by
   rw [nth_upd_ne hne5'];exact Rel.v_inv (by rw [←hn];exact hF.nth t5)
  show [nth (upd (upd l t8 (.pointer (some ⟨b,0,none⟩))) t56 (nth (upd l t8 (.pointer (some ⟨b,0,none⟩))) t5)) t8,nth (upd (upd l t8 (.pointer (some ⟨b,0,none⟩))) t56 (nth (upd l t8 (.pointer (some ⟨b,0,none⟩))) t5)) t56]=_
  rw [nth_upd_ne hne',nth_upd i8,nth_upd j56,e5]
 ·refine Ret.of_calls' (Calls.mono (Tryz.Builder_Grow_fresh b b n w1 (Nat.le_refl _) hnw.blk (by have:=hnw.size;omega) hb) ?_)
  rintro e w' ⟨h1,h2⟩
  exact ⟨_,h1,rfl,h2⟩
 ·obtain ⟨rfl,⟨_,v,hcell,hown,hnb⟩,hbel⟩:=hx
  have hown:Own w2 b 5 1 v 0 []:=hown
  obtain ⟨a,c,rfl⟩:=hown.shape
  have hfr:=hnw.fresh
  have hext:Ext none' w w2:=⟨hbel.os.trans hnw.ext.os,hbel.tape.trans hnw.ext.tape,hbel.output.trans hnw.ext.output,Nat.le_trans hnw.ext.size hbel.size,fun k hk hs=>(hbel.block k (by omega)).trans (hnw.ext.block k hk hs)⟩
  have hI2:=hI.same hext
  have hno:∀ i,β i=.no:=fun i=>hI.out i (Nat.zero_le _)
  have hKb:∀ o,K b o=none:=fun o=>by
   cases hk:K b o with
   | none=>rfl
   | some g=>have:=hI.fz.lt hk;omega
  have hw0:=hI.ext.size
  have hlt1:=hI.tab.pow.lt
  have hlt2:=hI.tab.spc.lt
  have hle1:BLe β (setβ β ([]:List Ob).length (.fix b)):=setβ_le (by rw [hno];trivial)
  have hI3:=hI2.addAt (x:=.fix b) (y:=.box 172 [.loc 0 0,.v (.slice a 0 c)]) (fun b' hb'=>by
   cases hb'
   exact ⟨fun i hi=>(by rw [hno] at hi;cases hi),by omega,by omega,by omega⟩) (by
   refine ⟨b,[.pointer (some ⟨b,0,none⟩),.slice a 0 c],setβ_same,hcell,.cons (.loc 0 0 b setβ_same) (.cons (.v _) .nil),hKb⟩) hle1
  have hown':Own w2 0 5 1 (.slice a 0 c) 0 []:=hown.base (Nat.zero_le _)
  have hab:∀ g,(Value.slice a 0 c).ownBlock=some g→b < g:=fun g hg=>by
   have h1:=(hown.lt hg).1
   have h2:g≠b:=fun e=>hnb (by rw [hg,e])
   omega
  have hb1:setβ β ([]:List Ob).length (.fix b) 1=.no:=by rw [setβ_ne (by decide)];exact hno 1
  have hle2:BLe (setβ β ([]:List Ob).length (.fix b)) (setβ (setβ β ([]:List Ob).length (.fix b)) 1 (.gr (.slice a 0 c) 0)):=setβ_le (by rw [hb1];trivial)
  have hI4:=hI3.addAt (x:=.gr (.slice a 0 c) 0) (y:=.vech 5 1 [] (.slice a 0 c)) (fun g hg=>by
   have:=hab g hg
   refine ⟨fun i hi=>?_,by omega,by omega,by omega⟩
   rcases setβ_blk hi with h1 | h1
   ·cases h1;omega
   ·rw [hno] at h1;cases h1) (by
   refine ⟨[],setβ_same,hown',RelL.nil,(fun r hr=>by cases hr),fun g hg o=>?_⟩
   cases hk:K g o with
   | none=>rfl
   | some y=>have:=hI.fz.lt hk;have:=hab g hg;omega) hle2
  refine h a c B K _ w2 _ hm hI4 ?_
  have hF2:=(hF.mono (KLe.refl K) hle1).mono (KLe.refl K) hle2
  refine ((hF2.upd t8 (.loc 0 0 b ?_)).upd t56 ?_).upd t57 (.v _)
  ·rw [setβ_ne (by decide)];exact setβ_same
  ·have e5:nth (upd l t8 (.pointer (some ⟨b,0,none⟩))) t5=.int .i64 n:=by
    rw [nth_upd_ne hne5'];exact Rel.v_inv (by rw [←hn];exact hF.nth t5)
   rw [show ev (put l (some t8) (.pointer (some ⟨b,0,none⟩))) (.tmp t5)=.int .i64 n from e5];exact .v _
end Go.Xg
namespace Go.Xg
open Go.RowKit Go.Xw Go.Proofs
open Go.Xp (joinC)
attribute [local irreducible] GW GL GO YG GC GA gthn ginb
theorem brows_app (a b:Str):brows (a++b)=brows a++brows b:=by simp [brows]
def sumJ (l:List Str):Nat:=(l.map List.length).sum
theorem joinC_len:∀ (r:List Str) (x:Str),(joinC (x::r)).length=sumJ (x::r)+2 * r.length
 | [],x=>by simp [joinC,sumJ]
 | y::r,x=>by
  have:=joinC_len r y
  simp only [joinC,sumJ,List.length_append,List.map_cons,List.sum_cons,List.flatMap_cons,List.length_cons] at this ⊢
  omega
def gj (l:List Str):Str:=l.flatMap fun y=>44::32::y
theorem gj_app (a b:List Str):gj (a++b)=gj a++gj b:=by unfold gj;rw [List.flatMap_append]
theorem gj_take (l:List Str) (k:Nat):(gj (l.take k)).length≤(gj l).length:=by
 have:gj l=gj (l.take k)++gj (l.drop k):=by rw [←gj_app,List.take_append_drop]
 rw [this,List.length_append];omega
theorem gj_one (y:Str):gj [y]=[44,32]++y:=by simp [gj]
theorem joinC_gj (x:Str) (r:List Str):joinC (x::r)=x++gj r:=rfl
theorem Join_g (l:List Str) (hb:(joinC l).length≤1099511627776) (hl:l.length≤1099511627776):GF Tryz.prog 109 [strs l,.v (sv [44,32])] [] (.v (sv (joinC l))) []:=by
 match l,hb,hl with
 | [],hb,hl =>
  refine GC.enter Tryz.func109 Tryz.ntmps109 rfl (by simp only [gframe,grep,Nat.reduceSub];rfl) ?_
  refine w_grun ?_
  refine w_gret ?_
  exact ⟨rfl,rfl⟩
 | [x],hb,hl =>
  have hr:([x].map fun s=>[GV.v (sv s)])[0]?=some [.v (sv x)]:=rfl
  have e:joinC [x]=x:=by simp [joinC]
  rw [e]
  refine GC.enter Tryz.func109 Tryz.ntmps109 rfl (by simp only [gframe,grep,Nat.reduceSub];rfl) ?_
  refine w_grun ?_
  refine w_gret ?_
  exact ⟨rfl,rfl⟩
 | x::y::r,hb,hl =>
  have hr0:((x::y::r).map fun s=>[GV.v (sv s)])[0]?=some [.v (sv x)]:=rfl
  have hlen:=joinC_len (y::r) x
  have hxl:x.length≤1099511627776:=by simp only [joinC,List.length_append] at hb;omega
  generalize hL:(x::y::r)=l at *
  have hl2:2≤l.length:=by rw [←hL];simp
  have hml:(l.map fun s=>[GV.v (sv s)]).length=l.length:=by simp
  have hb1:Nat.blt 1 (l.map fun s=>[GV.v (sv s)]).length=true:=by rw [hml];simpa [Nat.blt] using hl2
  have hn0:(((l.map fun s=>[GV.v (sv s)]).length:Int)==0)=false:=by rw [hml];simp only [beq_eq_false_iff_ne,ne_eq];omega
  have hn1:(((l.map fun s=>[GV.v (sv s)]).length:Int)==1)=false:=by rw [hml];simp only [beq_eq_false_iff_ne,ne_eq];omega
  have hq:decide ((9223372036854775807:Int) / (((l.map fun s=>[GV.v (sv s)]).length:Int) - 1)≤2)=false:=by
   rw [hml]
   have h3:(3:Int)≤9223372036854775807 / ((l.length:Int) - 1):=by
    rw [Int.le_ediv_iff_mul_le (by omega)];omega
   simp;omega
  refine GC.enter Tryz.func109 Tryz.ntmps109 rfl (by simp only [gframe,grep,Nat.reduceSub];rfl) ?_
  refine w_grun ?_
  apply GL.q
  ·exact YG.mul (a:=2) (b:=((l.map fun s=>[GV.v (sv s)]).length:Int) - 1) rfl rfl (by omega)
  refine w_gnm ?_
  refine w_grun ?_
  refine GW.range (l.map fun s=>[GV.v (sv s)]).length (fun k fr Γ=>fr=[strs l,.v (sv [44,32]),.any,.any,.any,.v (ii (0+2 * (((l.map fun s=>[GV.v (sv s)]).length:Int) - 1)+((sumJ (l.take k):Nat):Int))),.any,.any,.any,.any,.any,.any,.any,.any,.any,.any,.any,.any,.any,.any,.any,.any,.any,.any,.any,.any,.any,.any,.any,.any,.any,.any,.any,.any,.any,.any,.any,.any,.any,strs l,.v (ii ((l.map fun s=>[GV.v (sv s)]).length:Int)),.v (ii (k:Nat)),.any,.any,.any,.any,.any,.any,.any,.any,.any,.any,.any,.any,.any,.any,.any,.any,.any,.any,.any,.any,.any,.any,.any,.any,.any,.any,.any,.any,.any,.any,.any,.any,.any]∧Γ=[]) ?_ (by omega) ?_ ?_ ?_
  ·refine ⟨_,_,Wk.frm (fr':=[strs l,.v (sv [44,32]),.any,.any,.any,.v (ii (0+2 * (((l.map fun s=>[GV.v (sv s)]).length:Int) - 1))),.any,.any,.any,.any,.any,.any,.any,.any,.any,.any,.any,.any,.any,.any,.any,.any,.any,.any,.any,.any,.any,.any,.any,.any,.any,.any,.any,.any,.any,.any,.any,.any,.any,strs l,.v (ii ((l.map fun s=>[GV.v (sv s)]).length:Int)),.v (ii (0:Nat)),.any,.any,.any,.any,.any,.any,.any,.any,.any,.any,.any,.any,.any,.any,.any,.any,.any,.any,.any,.any,.any,.any,.any,.any,.any,.any,.any,.any,.any,.any,.any,.any,.any]) w_wkf,?_,rfl⟩
   rw [List.take_zero,show ((sumJ []:Nat):Int)=0 from rfl,Int.add_zero]
  ·rintro k _ _ ⟨rfl,rfl⟩;exact ⟨rfl,rfl,rfl⟩
  ·rintro k _ _ hlt ⟨rfl,rfl⟩
   rw [hml] at hlt
   have hki:l[k]?=some l[k]:=by simp [hlt]
   have hkr:(l.map fun s=>[GV.v (sv s)])[k]?=some [.v (sv l[k])]:=by rw [List.getElem?_map,hki];rfl
   have hs:sumJ (l.take (k+1))=sumJ (l.take k)+l[k].length:=by unfold sumJ;rw [List.take_add_one,hki,List.map_append,List.sum_append];simp only [Option.toList,List.map_cons,List.map_nil,List.sum_cons,List.sum_nil,Nat.add_zero]
   have hle:sumJ (l.take (k+1))≤sumJ l:=by
    have:sumJ l=sumJ (l.take (k+1))+sumJ (l.drop (k+1)):=by
     unfold sumJ;rw [←List.sum_append,←List.map_append,List.take_append_drop]
    omega
   generalize l[k]=z at *
   rw [show (0+2 * (((l.map fun s=>[GV.v (sv s)]).length:Int) - 1)+((sumJ (l.take (k+1)):Nat):Int))=0+2 * (((l.map fun s=>[GV.v (sv s)]).length:Int) - 1)+((sumJ (l.take k):Nat):Int)+(z.length:Int) by rw [hs];omega]
   have hov:decide (9223372036854775807 - (0+2 * (((l.map fun s=>[GV.v (sv s)]).length:Int) - 1)+((sumJ (l.take k):Nat):Int)) < (z.length:Int))=false:=by
    simp only [decide_eq_false_iff_not];omega
   refine w_grun ?_
   exact ⟨rfl,rfl,_,_,Wk.frm w_wkf,rfl,rfl⟩
  ·rintro _ _ ⟨rfl,rfl⟩
   rw [hml,List.take_length]
   have hN:(0+2 * ((l.length:Int) - 1)+((sumJ l:Nat):Int))=(((joinC l).length:Nat):Int):=by
    have:(y::r).length+1=l.length:=by rw [←hL];simp
    omega
   rw [hN]
   refine gthn_n ?_
   refine GW.builder (joinC l).length rfl rfl rfl rfl rfl (by omega) fun a c=>?_
   refine w_grun ?_
   refine w_gcallr [0,1] (WriteString_b x 0 a c [] rfl (by omega)) ?_;rintro _ _ ⟨⟨u1,rfl⟩,a1,c1,rfl⟩;refine w_gsim ?_
   refine w_grun ?_
   have key:∀ k,(x++gj ((y::r).take k)).length≤1099511627776:=fun k=>by
    have h1:=gj_take (y::r) k
    rw [←hL,joinC_gj,List.length_append] at hb
    rw [List.length_append];omega
   refine GW.range ((y::r).map fun s=>[GV.v (sv s)]).length (fun k fr Γ=>∃ acc a c,fr=[.any,.v (sv [44,32]),.any,.any,.any,.any,.any,.any,.loc 0 0,.any,.any,.any,.any,.any,.any,.any,.any,.any,.any,.any,.any,.any,.any,.any,.any,.any,.any,.any,.any,.any,.any,.any,.any,.any,.any,.any,.any,.any,.any,.any,.any,.any,.any,.any,.any,.any,.any,.any,.any,.any,.any,.any,.any,.any,.any,.any,.any,.any,.any,.any,.any,.any,.any,strs (y::r),.v (ii (((y::r).map fun s=>[GV.v (sv s)]).length:Int)),.v (ii (k:Nat)),.any,.any,.any,.any,.any,.any,.any,.any,.any]∧acc=x++gj ((y::r).take k)∧Γ=[.box 172 [.loc 0 0,.v (.slice a acc.length c)],.vech 5 1 (brows acc) (.slice a acc.length c)]) ?_ ?_ ?_ ?_ ?_
   ·rw [show 0+x.length=x.length from Nat.zero_add _]
    subst hL
    exact ⟨_,_,Wk.frm w_wkf,x,a1,c1,rfl,by simp [gj],rfl⟩
   ·have:((y::r).map fun s=>[GV.v (sv s)]).length+1=l.length:=by rw [←hL];simp
    omega
   ·rintro k _ _ ⟨acc,a,c,rfl,_,rfl⟩;exact ⟨rfl,rfl,rfl⟩
   ·rintro k _ _ hlt ⟨acc,a,c,rfl,hacc,rfl⟩
    have hlt:k < (y::r).length:=by simpa using hlt
    have hki:(y::r)[k]?=some (y::r)[k]:=by simp [hlt]
    have hkr:((y::r).map fun s=>[GV.v (sv s)])[k]?=some [.v (sv (y::r)[k])]:=by rw [List.getElem?_map,hki];rfl
    have hnext:x++gj ((y::r).take (k+1))=(acc++[44,32])++(y::r)[k]:=by
     rw [List.take_add_one,hki,gj_app,←List.append_assoc,←hacc,List.append_assoc]
     congr 1
     exact gj_one _
    have hk1:=key k
    have hk2:=key (k+1)
    rw [hnext] at hk2
    rw [←hacc] at hk1
    simp only [List.length_append,List.length_cons,List.length_nil] at hk2
    generalize (y::r)[k]=z at *
    have hlacc:(brows acc).length=acc.length:=by simp [brows]
    refine w_grun ?_
    refine w_gcallr [0,1] (WriteString_b [44,32] acc.length a c (brows acc) hlacc (by simp only [List.length_cons,List.length_nil];omega)) ?_;rintro _ _ ⟨⟨u1,rfl⟩,a2,c2,rfl⟩;refine w_gsim ?_
    rw [show brows acc++[[GV.v (.int .u8 ((44:UInt8).toNat:Int))],[GV.v (.int .u8 ((32:UInt8).toNat:Int))]]=brows (acc++[44,32]) by simp [brows],show acc.length+([44,32]:Str).length=(acc++[44,32]).length by simp]
    refine w_grun ?_
    refine w_gcallr [0,1] (WriteString_b z (acc++[44,32]).length a2 c2 (brows (acc++[44,32])) (by simp [brows]) (by simp only [List.length_append,List.length_cons,List.length_nil];omega)) ?_;rintro _ _ ⟨⟨u2,rfl⟩,a3,c3,rfl⟩;refine w_gsim ?_
    have ez:List.length (acc++[44,32])+List.length z=List.length ((acc++[44,32])++z):=by simp only [List.length_append]
    rw [←brows_app,ez]
    refine w_grun ?_
    exact ⟨rfl,rfl,_,_,Wk.frm w_wkf,(acc++[44,32])++z,a3,c3,rfl,hnext.symm,rfl⟩
   ·rintro _ _ ⟨acc,a,c,rfl,hacc,rfl⟩
    have hj:joinC l=acc:=by
     rw [hacc,←hL,show ((y::r).map fun s=>[GV.v (sv s)]).length=(y::r).length by simp,List.take_length];rfl
    rw [hj] at hb hlen ⊢
    have hne:acc≠[]:=by
     intro h0;rw [h0] at hlen;simp at hlen
    have hstr:=String_b acc a c hne (by omega)
    refine w_grun ?_
    refine w_gcall [0,1] (hstr) ?_
    refine w_grun ?_
    refine w_gret ?_
    exact ⟨rfl,rfl⟩
end Go.Xg
namespace Go.Xg
open Go.RowKit Go.Xw Go.Proofs
open Go.Xp (Tok Nd T)
open Go.Sp (Src)
open Go.Im (trN trK tr bodI kOkN kOk kOks)
attribute [local irreducible] GW GL GO YG GC GA gthn ginb
mutual
def tT:T→GV
 | .mk n l=>.box [.v (ii n.kind),.v (ii n.at_),.v (ii n.n),.v (sv n.s),ints n.kids,.sl 1 (tTs l)] 0
def tTs:List T→List (List GV)
 | []=>[]
 | t::r=>[tT t]::tTs r
end
abbrev uT (t:T):GV:=.box [.v (ii t.n.kind),.v (ii t.n.at_),.v (ii t.n.n),.v (sv t.n.s),ints t.n.kids,.sl 1 (tTs t.kids)] 0
theorem tT_eq (t:T):tT t=uT t:=by cases t;rw [tT];rfl
theorem tTs_map (l:List T):tTs l=l.map fun t=>[uT t]:=by
 induction l with
 | nil=>rfl
 | cons t l ih=>rw [tTs,ih,tT_eq];rfl
theorem tTs_len (l:List T):(tTs l).length=l.length:=by rw [tTs_map];simp
theorem tTs_app (l:List T) (t:T):tTs (l++[t])=tTs l++[[uT t]]:=by rw [tTs_map,tTs_map];simp
theorem row_tT {l:List T} {i:Nat} {t:T} (h:l[i]?=some t):(tTs l)[i]?=some [uT t]:=by rw [tTs_map,List.getElem?_map,h];rfl
def trG:Option (T × Nat)→GV
 | none=>.tup [.any,.any,.v (.bool false)]
 | some (t,e)=>.tup [uT t,.v (ii (e:Nat)),.v (.bool true)]
theorem treeAt_i (nodes:List Nd) (hl:nodes.length≤1099511627776) (hk:∀ n∈nodes,n.kids.length≤1099511627776):∀ (f a:Nat),nodes.length - a+1≤f→a≤1099511627776 →
  GF Tryz.prog 36 [.sl 5 (nodes.map encNode),.v (ii (a:Nat))] [] (trG (trN nodes f a)) []:=by
 intro f
 induction f with
 | zero=>intro a h;omega
 | succ f ih =>
 intro a hf ha
 rw [trN]
 cases hn:nodes[a]? with
 | none =>
  have hge:nodes.length≤a:=List.getElem?_eq_none_iff.1 hn
  have hd:decide (((nodes.map encNode).length:Int)≤(a:Int))=true:=by simpa using hge
  refine GC.enter Tryz.func36 Tryz.ntmps36 rfl (by simp only [gframe,grep,Nat.reduceSub];rfl) ?_
  refine w_grun ?_
  refine w_gret3l ?_
  exact ⟨_,w_gle,rfl,rfl⟩
 | some n =>
  have hlt:=(List.getElem?_eq_some_iff.1 hn).1
  have hd:decide (((nodes.map encNode).length:Int)≤(a:Int))=false:=by simpa using hlt
  have hr:(nodes.map encNode)[a]?=some (encNode n):=by rw [List.getElem?_map,hn];rfl
  have hnk:=hk n (List.mem_of_getElem? hn)
  simp only
  generalize hR:trK (trN nodes f) n.kids (a+1) []=R
  refine GC.enter Tryz.func36 Tryz.ntmps36 rfl (by simp only [gframe,grep,Nat.reduceSub];rfl) ?_
  refine w_grun ?_
  refine GW.wk (Wk.nilC (i:=0) (o:=5) 62 1 rfl rfl) ?_
  refine GW.range (n.kids.map fun i=>[GV.v (ii i)]).length (fun k fr Γ=>∃ next acc m rows,fr=[.sl 5 (nodes.map encNode),.v (ii (a:Nat)),.any,.any,.any,.any,.any,.loc 0 0,.v (ii (next:Nat)),.any,.any,.any,.any,.any,.any,.any,.any,.any,.any,.any,.any,.any,.any,.any,.any,.any,.any,.any,.any,.any,ints n.kids,.v (ii ((n.kids.map fun i=>[GV.v (ii i)]).length:Int)),.v (ii (k:Nat)),.any,.any,.any,.any,.any,.any,.any,.any,.any,.any,.any,.any,.any,.any,.any,.any,.any,.any,.any,.any,.any,.any,.any,.any,.any,.any,.any,.any,.any,.any,.any,.any,.any,.any,.any] ∧
   Γ=[.box 111 [.v (ii n.kind),.v (ii n.at_),.v (ii n.n),.v (sv n.s),ints n.kids,.vec 1 m],.vec 62 1 0 rows]∧rows.length=m∧rows=tTs acc∧m=k∧a+1≤next∧next≤nodes.length∧trK (trN nodes f) (n.kids.drop k) next acc=R) ?_ (by simpa using hnk) ?_ ?_ ?_
  ·exact ⟨_,_,Wk.frm w_wkf,a+1,[],0,[],rfl,rfl,rfl,rfl,rfl,Nat.le_refl _,hlt,hR⟩
  ·rintro k _ _ ⟨next,acc,m,rows,rfl,rfl,_⟩;exact ⟨rfl,rfl,rfl⟩
  ·rintro k _ _ hkl ⟨next,acc,m,rows,rfl,rfl,hm,hrow,hmk,hna,hnl,h⟩
   have hkl:k < n.kids.length:=by simpa using hkl
   have hki:n.kids[k]?=some n.kids[k]:=by simp [hkl]
   have hkr:(n.kids.map fun i=>[GV.v (ii i)])[k]?=some [.v (ii n.kids[k])]:=by rw [List.getElem?_map,hki];rfl
   rw [List.drop_eq_getElem_cons hkl,trK] at h
   generalize n.kids[k]=z at *
   by_cases hz:z=(next:Int)
   ·rw [if_pos hz] at h
    subst hz
    have hz':((next:Int) != (next:Int))=false:=by simp
    have hih:=ih next (by omega) (by omega)
    cases hq:trN nodes f next with
    | none =>
     rw [hq] at h hih
     subst h
     refine w_grun ?_
     refine w_gcall [] (hih) ?_
     refine w_grun ?_
     refine w_gret3l ?_
     exact ⟨_,w_gle,rfl,rfl⟩
    | some x =>
     obtain ⟨t,e⟩:=x
     rw [hq] at h hih
     simp only at h
     obtain ⟨s1,s2,_,_⟩:=Go.Im.trN_spec f next t e hq
     refine w_grun ?_
     refine w_gcall [] (hih) ?_
     refine w_grun ?_
     refine w_gpush ?_
     refine w_grun ?_
     exact ⟨rfl,rfl,_,_,Wk.frm w_wkf,e,acc++[t],_,_,rfl,rfl,by simp [hm],by rw [tTs_app,hrow],by omega,by omega,s2,h⟩
   ·rw [if_neg hz] at h
    subst h
    have hz':(z != (next:Int))=true:=by simpa using hz
    refine w_grun ?_
    refine w_gret3l ?_
    exact ⟨_,w_gle,rfl,rfl⟩
  ·rintro _ _ ⟨next,acc,m,rows,rfl,rfl,hm,hrow,hmk,hna,hnl,h⟩
   rw [show n.kids.drop (n.kids.map fun i=>[GV.v (ii i)]).length=[] by simp,trK] at h
   subst h
   simp only
   subst hrow
   refine gthn_n ?_
   refine GW.wk (Wk.snapC (i:=0) (o:=5) (j:=1) rfl rfl rfl rfl hm) ?_
   by_cases h0:n.at_ < 0
   ·rw [if_pos h0]
    have h0':decide ((0:Int)≤n.at_)=false:=by simpa using h0
    refine w_grun ?_
    refine GW.draw (.q 0 (.q 1 (.q 2 (.q 3 (.q 4 (.q 5 (.q 6 (.q 7 (.q 8 (.q 9 (.q 10 .nil))))))))))) (by kernel_rfl) (by kernel_rfl) ?_
    refine w_gorun ?_
    refine w_grun ?_
    rw [h0']
    refine GW.wk (Wk.freeze (i:=0) rfl rfl rfl (Nat.le_refl _)) ?_
    refine w_gret3l ?_
    exact ⟨_,w_gle,rfl,rfl⟩
   ·rw [if_neg h0]
    have h0':decide ((0:Int)≤n.at_)=true:=by simpa using h0
    refine w_grun ?_
    refine GW.draw (.q 0 (.q 1 (.q 2 (.q 3 (.q 4 (.q 5 (.q 6 (.q 7 (.q 8 (.q 9 (.q 10 .nil))))))))))) (by kernel_rfl) (by kernel_rfl) ?_
    refine w_gorun ?_
    refine w_grun ?_
    rw [h0']
    refine GW.wk (Wk.freeze (i:=0) rfl rfl rfl (Nat.le_refl _)) ?_
    refine w_gret3 ?_
    exact ⟨rfl,rfl⟩
def bodG (nodes:List Nd):Option (List T × Nat)→GV
 | none=>.tup [.any,.v (.bool false)]
 | some (l,e)=>.tup [.sl 1 (tTs l),.v (.bool ((e:Int)==(nodes.length:Int)))]
theorem bodies_i (p:Src) (hl:p.nodes.length≤1099511627776) (hk:∀ n∈p.nodes,n.kids.length≤1099511627776) (hf:p.fns.length≤1099511627776) :
  GF Tryz.prog 62 [.agg (encSrc p)] [] (bodG p.nodes (bodI p.nodes p.fns 0 [])) []:=by
 generalize hR:bodI p.nodes p.fns 0 []=R
 refine GC.enter Tryz.func62 Tryz.ntmps62 rfl (by simp only [gframe,grep,Nat.reduceSub];rfl) ?_
 refine w_grun ?_
 refine GW.wk (Wk.nilV (t:=4) (a:=none) (c:=0) 62 1 rfl) ?_
 refine GW.range (p.fns.map encFn).length (fun k fr Γ=>∃ next acc m rows,fr=[.any,.loc 0 0,.any,.any,.vec 1 m,.v (ii (next:Nat)),.any,.any,.any,.any,.any,.any,.sl 3 (p.fns.map encFn),.v (ii ((p.fns.map encFn).length:Int)),.v (ii (k:Nat)),.any,.any,.any,.any,.any,.any,.any,.any,.any,.any,.any,.any,.any,.any,.any,.any,.any,.any,.any,.any,.any,.any,.any,.any,.any,.any,.any,.any,.any,.any,.any] ∧
  Γ=[.box 28 (encSrc p),.vec 62 1 0 rows]∧rows.length=m∧rows=tTs acc∧m=k∧next≤p.nodes.length∧bodI p.nodes (p.fns.drop k) next acc=R) ?_ (by simpa using hf) ?_ ?_ ?_
 ·exact ⟨_,_,Wk.frm w_wkf,0,[],0,[],rfl,rfl,rfl,rfl,rfl,Nat.zero_le _,hR⟩
 ·rintro k _ _ ⟨next,acc,m,rows,rfl,rfl,_⟩;exact ⟨rfl,rfl,rfl⟩
 ·rintro k _ _ hkl ⟨next,acc,m,rows,rfl,rfl,hm,hrow,hmk,hnl,h⟩
  have hkl:k < p.fns.length:=by simpa using hkl
  have hki:p.fns[k]?=some p.fns[k]:=by simp [hkl]
  have hkr:(p.fns.map encFn)[k]?=some (encFn p.fns[k]):=by rw [List.getElem?_map,hki];rfl
  rw [List.drop_eq_getElem_cons hkl,bodI] at h
  generalize p.fns[k]=fn at *
  have hta:=treeAt_i p.nodes hl hk (p.nodes.length+1) next (by omega) (by omega)
  unfold tr at h
  cases hq:trN p.nodes (p.nodes.length+1) next with
  | none =>
   rw [hq] at h hta
   subst h
   refine w_grun ?_
   refine w_gcall [] (hta) ?_
   refine w_grun ?_
   refine w_gret2l ?_
   exact ⟨_,w_gle,rfl,rfl⟩
  | some x =>
   obtain ⟨t,e⟩:=x
   rw [hq] at h hta
   simp only at h
   obtain ⟨s1,s2,_,_⟩:=Go.Im.trN_spec _ next t e hq
   by_cases hb:fn.body=(next:Int)
   ·rw [if_pos hb] at h
    have hb':(fn.body != (next:Int))=false:=by simpa using hb
    refine w_grun ?_
    refine w_gcall [] (hta) ?_
    refine w_grun ?_
    refine w_gpush ?_
    refine w_grun ?_
    exact ⟨rfl,rfl,_,_,(Wk.cut (n:=2) (Nat.zero_le _) rfl).trans (Wk.frm w_wkf),e,acc++[t],_,_,rfl,rfl,by simp [hm],by rw [tTs_app,hrow],by omega,s2,h⟩
   ·rw [if_neg hb] at h
    subst h
    have hb':(fn.body != (next:Int))=true:=by simpa using hb
    refine w_grun ?_
    refine w_gcall [] (hta) ?_
    refine w_grun ?_
    refine w_gret2l ?_
    exact ⟨_,w_gle,rfl,rfl⟩
 ·rintro _ _ ⟨next,acc,m,rows,rfl,rfl,hm,hrow,hmk,hnl,h⟩
  rw [show p.fns.drop (p.fns.map encFn).length=[] by simp,bodI] at h
  subst h
  subst hrow
  refine gthn_n ?_
  refine GW.wk (Wk.snap (t:=4) rfl rfl rfl hm) ?_
  have hnn:p.nodes.length=(p.nodes.map encNode).length:=by simp
  unfold bodG
  rw [hnn]
  refine w_grun ?_
  refine GW.draw (.q 0 (.q 1 (.q 2 (.q 3 (.q 4 (.q 5 (.q 6 (.q 7 .nil)))))))) (by kernel_rfl) (by kernel_rfl) ?_
  refine w_gorun ?_
  refine w_grun ?_
  refine w_gret2 ?_
  exact ⟨rfl,rfl⟩
end Go.Xg
namespace Go.Xg
open Go.RowKit Go.Xw Go.Proofs
open Go.Xp (Tok Nd T signOf one levels kwVar kwIf kwElse kwWhile kwReturn)
open Go.Sp
attribute [local irreducible] GW GL GO YG GC GA gthn ginb
structure PX where
 a:Value
 b:Value
 c:Value
 d:Value
 e:Value
abbrev encPR (p:RS) (x:PX):Ob:=.box 121 [toks p.l,.v (ii p.i),.v (ii p.e),.v (ii p.code),.v (ii p.at_),.v x.a,.v x.b,.v x.c,.v x.d,.v x.e]
theorem tok_g (p:RS) (k:Nat) (x:PX) (hp:p.ok) (hk:k≤1):GF Tryz.prog 141 [.loc 0 0,.v (ii (k:Nat))] [encPR p x] (.agg (encTok (Go.Im.tok p k))) [encPR p x]:=by
 obtain ⟨hp1,hp2⟩:=hp
 unfold Go.Im.tok
 cases ht:p.l[p.i+k]? with
 | some t =>
  have hr:=row_tok ht
  have hlt:p.i+k < p.l.length:=(List.getElem?_eq_some_iff.1 ht).1
  have hd:decide (((p.l.map encTok).length:Int)≤((p.i+k:Nat):Int))=false:=by simpa using by omega
  refine GC.enter Tryz.func141 Tryz.ntmps141 rfl (by simp only [gframe,grep,Nat.reduceSub];rfl) ?_
  refine w_grun ?_
  refine GW.draw (.q 0 (.q 1 (.q 2 (.q 3 (.q 4 (.q 5 (.q 6 (.q 7 (.q 8 (.q 9 (.q 10 (.q 11 .nil)))))))))))) (by kernel_rfl) (by kernel_rfl) ?_
  refine w_gorun ?_
  refine w_grun ?_
  refine GW.draw (.q 0 (.q 1 (.q 2 (.q 3 (.q 4 (.q 5 (.q 6 (.q 7 (.q 8 (.q 9 (.q 10 (.q 11 (.a 12 .nil))))))))))))) (by kernel_rfl) (by kernel_rfl) ?_
  refine w_gorun ?_
  refine w_grun ?_
  refine w_gretc ?_
  exact ⟨rfl,rfl⟩
 | none =>
  have hlt:p.l.length≤p.i+k:=List.getElem?_eq_none_iff.1 ht
  have hd:decide (((p.l.map encTok).length:Int)≤((p.i+k:Nat):Int))=true:=by simpa using by omega
  refine GC.enter Tryz.func141 Tryz.ntmps141 rfl (by simp only [gframe,grep,Nat.reduceSub];rfl) ?_
  refine w_grun ?_
  refine GW.draw (.q 0 (.q 1 (.q 2 (.q 3 (.q 4 (.q 5 (.q 6 (.q 7 (.q 8 (.q 9 (.q 10 (.q 11 .nil)))))))))))) (by kernel_rfl) (by kernel_rfl) ?_
  refine w_gorun ?_
  refine w_grun ?_
  refine w_gretc ?_
  exact ⟨rfl,rfl⟩
theorem fail_i (p:RS) (c a:Int) (x:PX):GF Tryz.prog 184 [.loc 0 0,.v (ii c),.v (ii a)] [encPR p x] (.tup []) [encPR (p.fail c a) x]:=by
 unfold RS.fail
 by_cases h:p.code=0
 ·have h':(p.code==0)=true:=by simpa using h
  rw [if_pos h]
  refine GC.enter Tryz.func184 Tryz.ntmps184 rfl (by simp only [gframe,grep,Nat.reduceSub];rfl) ?_
  refine w_grun ?_
  refine w_gret0 ?_
  exact ⟨rfl,rfl⟩
 ·have h':(p.code==0)=false:=by simpa using h
  rw [if_neg h]
  refine GC.enter Tryz.func184 Tryz.ntmps184 rfl (by simp only [gframe,grep,Nat.reduceSub];rfl) ?_
  refine w_grun ?_
  refine w_gret0 ?_
  exact ⟨rfl,rfl⟩
theorem wrong_i (p:RS) (x:PX) (hp:p.ok):GF Tryz.prog 142 [.loc 0 0] [encPR p x] (.tup []) [encPR (Go.Im.wrong p) x]:=by
 have ht:=tok_g p 0 x hp (by decide)
 unfold Go.Im.wrong
 generalize Go.Im.tok p 0=t at *
 have hf:=fail_i p 7 t.at_ x
 refine GC.enter Tryz.func142 Tryz.ntmps142 rfl (by simp only [gframe,grep,Nat.reduceSub];rfl) ?_
 refine w_grun ?_
 refine w_gcall [0] (ht) ?_
 refine w_grun ?_
 refine w_gcall [0] (hf) ?_
 refine w_grun ?_
 refine w_gret0 ?_
 exact ⟨rfl,rfl⟩
theorem deeper_i (p:RS) (d:Nat) (x:PX) (hp:p.ok):GF Tryz.prog 186 [.loc 0 0,.v (ii (d:Nat))] [encPR p x] (.v (.bool ((Go.Im.deeper p d).code==0))) [encPR (Go.Im.deeper p d) x]:=by
 have ht:=tok_g p 0 x hp (by decide)
 unfold Go.Im.deeper
 generalize Go.Im.tok p 0=t at *
 by_cases h:d > 60
 ·have h':decide ((60:Int) < (d:Int))=true:=by simpa using by omega
  rw [if_pos h]
  have hf:=fail_i p 9 t.at_ x
  generalize p.fail 9 t.at_=q at *
  refine GC.enter Tryz.func186 Tryz.ntmps186 rfl (by simp only [gframe,grep,Nat.reduceSub];rfl) ?_
  refine w_grun ?_
  refine w_gcall [0] (ht) ?_
  refine w_grun ?_
  refine w_gcall [0] (hf) ?_
  refine w_grun ?_
  refine w_gret ?_
  exact ⟨rfl,rfl⟩
 ·have h':decide ((60:Int) < (d:Int))=false:=by simpa using by omega
  rw [if_neg h]
  refine GC.enter Tryz.func186 Tryz.ntmps186 rfl (by simp only [gframe,grep,Nat.reduceSub];rfl) ?_
  refine w_grun ?_
  refine w_gret ?_
  exact ⟨rfl,rfl⟩
theorem is_i (p:RS) (k:Nat) (s:Str) (x:PX) (hp:p.ok) (hk:k≤1):GF Tryz.prog 139 [.loc 0 0,.v (ii (k:Nat)),.v (sv s)] [encPR p x] (.v (.bool (Go.Im.is p k s))) [encPR p x]:=by
 have ht:=tok_g p k x hp hk
 unfold Go.Im.is
 generalize Go.Im.tok p k=t at *
 cases h:(t.kind==3) with
 | true =>
  rw [Bool.true_and]
  refine GC.enter Tryz.func139 Tryz.ntmps139 rfl (by simp only [gframe,grep,Nat.reduceSub];rfl) ?_
  refine w_grun ?_
  refine w_gcall [0] (ht) ?_
  refine w_grun ?_
  refine w_gret ?_
  exact ⟨rfl,rfl⟩
 | false =>
  rw [Bool.false_and]
  refine GC.enter Tryz.func139 Tryz.ntmps139 rfl (by simp only [gframe,grep,Nat.reduceSub];rfl) ?_
  refine w_grun ?_
  refine w_gcall [0] (ht) ?_
  refine w_grun ?_
  refine w_gret ?_
  exact ⟨rfl,rfl⟩
theorem nameS_i (p:RS) (x:PX) (hp:p.ok):GF Tryz.prog 140 [.loc 0 0] [encPR p x] (.v (sv (Go.Im.tok p 0).s)) [encPR (Go.Im.nameS p) x]:=by
 have ht:=tok_g p 0 x hp (by decide)
 have hw:=wrong_i p x hp
 have hpp:=hp.2
 have hpi:=hp.1
 unfold Go.Im.nameS
 generalize Go.Im.tok p 0=t at *
 have hf:=fail_i p 8 t.at_ x
 by_cases hc:p.code=0
 ·have hc':(p.code != 0)=false:=by simpa using hc
  rw [if_pos hc]
  by_cases h2:t.kind=2
  ·have h2':(t.kind != 2)=false:=by simpa using h2
   rw [if_pos h2]
   by_cases hl:t.s.length > 12
   ·have hl':decide ((12:Int) < (t.s.length:Int))=true:=by simpa using by omega
    rw [if_pos hl]
    refine GC.enter Tryz.func140 Tryz.ntmps140 rfl (by simp only [gframe,grep,Nat.reduceSub];rfl) ?_
    refine w_grun ?_
    refine w_gcall [0] (ht) ?_
    refine w_grun ?_
    refine w_gcall [0] (hf) ?_
    refine w_grun ?_
    refine w_gret ?_
    exact ⟨rfl,rfl⟩
   ·have hl':decide ((12:Int) < (t.s.length:Int))=false:=by simpa using by omega
    rw [if_neg hl]
    refine GC.enter Tryz.func140 Tryz.ntmps140 rfl (by simp only [gframe,grep,Nat.reduceSub];rfl) ?_
    refine w_grun ?_
    refine w_gcall [0] (ht) ?_
    refine w_grun ?_
    refine w_gret ?_
    exact ⟨rfl,rfl⟩
  ·have h2':(t.kind != 2)=true:=by simpa using h2
   rw [if_neg h2]
   refine GC.enter Tryz.func140 Tryz.ntmps140 rfl (by simp only [gframe,grep,Nat.reduceSub];rfl) ?_
   refine w_grun ?_
   refine w_gcall [0] (ht) ?_
   refine w_grun ?_
   refine w_gcall [0] (hw) ?_
   refine w_grun ?_
   refine w_gret ?_
   exact ⟨rfl,rfl⟩
 ·have hc':(p.code != 0)=true:=by simpa using hc
  rw [if_neg hc]
  refine GC.enter Tryz.func140 Tryz.ntmps140 rfl (by simp only [gframe,grep,Nat.reduceSub];rfl) ?_
  refine w_grun ?_
  refine w_gcall [0] (ht) ?_
  refine w_grun ?_
  refine w_gret ?_
  exact ⟨rfl,rfl⟩
theorem want_i (p:RS) (s:Str) (x:PX) (hp:p.ok):GF Tryz.prog 143 [.loc 0 0,.sl 1 [[.v (sv s)]]] [encPR p x] (.tup []) [encPR (Go.Im.want p s) x]:=by
 have hi:=is_i p 0 s x hp (by decide)
 have hw:=wrong_i p x hp
 have hpp:=hp.2
 have hpi:=hp.1
 unfold Go.Im.want
 generalize Go.Im.wrong p=q at *
 have hr:([[GV.v (sv s)]]:List (List GV))[0]?=some [.v (sv s)]:=rfl
 refine GC.enter Tryz.func143 Tryz.ntmps143 rfl (by simp only [gframe,grep,Nat.reduceSub];rfl) ?_
 refine w_grun ?_
 by_cases hc:p.code=0
 ·have hc':(p.code != 0)=false:=by simpa using hc
  rw [if_pos hc]
  cases h:Go.Im.is p 0 s with
  | true =>
   rw [h] at hi
   rw [if_pos rfl]
   refine GW.range 1 (fun k fr Γ=>fr=[.loc 0 0,.any,.any,.any,.any,.any,.sl 1 [[.v (sv s)]],.v (ii ((1:Nat):Int)),.v (ii (k:Nat)),.any,.any,.any,.any,.any,.any,.any,.any,.any,.any,.any,.any,.any,.any,.any,.any,.any,.any,.any,.any,.any,.any]∧((k=0∧Γ=[encPR p x])∨(1≤k∧Γ=[encPR p.next x]))) ?_ (by decide) ?_ ?_ ?_
   ·exact ⟨_,_,Wk.frm w_wkf,rfl,.inl ⟨rfl,rfl⟩⟩
   ·rintro k _ _ ⟨rfl,_⟩;exact ⟨rfl,rfl,rfl⟩
   ·rintro k _ _ hk ⟨rfl,⟨rfl,rfl⟩ | ⟨h1,_⟩⟩
    ·refine w_grun ?_
     refine w_gcall [0] (hi) ?_
     refine w_grun ?_
     exact ⟨rfl,rfl,_,_,Wk.frm w_wkf,rfl,.inr ⟨Nat.le_refl _,rfl⟩⟩
    ·omega
   ·rintro _ _ ⟨rfl,⟨h1,_⟩ | ⟨_,rfl⟩⟩
    ·cases h1
    ·refine w_grun ?_
     refine w_gret0 ?_
     exact ⟨rfl,rfl⟩
  | false =>
   rw [h] at hi
   rw [if_neg (by decide)]
   refine GW.range 1 (fun k fr Γ=>fr=[.loc 0 0,.any,.any,.any,.any,.any,.sl 1 [[.v (sv s)]],.v (ii ((1:Nat):Int)),.v (ii (k:Nat)),.any,.any,.any,.any,.any,.any,.any,.any,.any,.any,.any,.any,.any,.any,.any,.any,.any,.any,.any,.any,.any,.any]∧k=0∧Γ=[encPR p x]) ?_ (by decide) ?_ ?_ ?_
   ·exact ⟨_,_,Wk.frm w_wkf,rfl,rfl,rfl⟩
   ·rintro k _ _ ⟨rfl,_⟩;exact ⟨rfl,rfl,rfl⟩
   ·rintro k _ _ hk ⟨rfl,rfl,rfl⟩
    refine w_grun ?_
    refine w_gcall [0] (hi) ?_
    refine w_grun ?_
    refine w_gcall [0] (hw) ?_
    refine w_grun ?_
    refine w_gret0 ?_
    exact ⟨rfl,rfl⟩
   ·rintro _ _ ⟨rfl,h1,_⟩;cases h1
 ·have hc':(p.code != 0)=true:=by simpa using hc
  rw [if_neg hc]
  refine GW.range 1 (fun k fr Γ=>fr=[.loc 0 0,.any,.any,.any,.any,.any,.sl 1 [[.v (sv s)]],.v (ii ((1:Nat):Int)),.v (ii (k:Nat)),.any,.any,.any,.any,.any,.any,.any,.any,.any,.any,.any,.any,.any,.any,.any,.any,.any,.any,.any,.any,.any,.any]∧k=0∧Γ=[encPR p x]) ?_ (by decide) ?_ ?_ ?_
  ·exact ⟨_,_,Wk.frm w_wkf,rfl,rfl,rfl⟩
  ·rintro k _ _ ⟨rfl,_⟩;exact ⟨rfl,rfl,rfl⟩
  ·rintro k _ _ hk ⟨rfl,rfl,rfl⟩
   refine w_grun ?_
   refine w_gret0 ?_
   exact ⟨rfl,rfl⟩
  ·rintro _ _ ⟨rfl,h1,_⟩;cases h1
end Go.Xg
namespace Go.Xg
open Go.RowKit Go.Xw Go.Proofs
open Go.Xp (Tok Nd T signOf one levels)
open Go.Sp
attribute [local irreducible] GW GL GO YG GC GA gthn ginb
mutual
def pT:T→GV
 | .mk n l=>.box [.v (ii n.kind),.v (ii n.at_),.v (ii n.n),.v (sv n.s),.v (.slice none 0 0),.sl 1 (pTs l)] 0
def pTs:List T→List (List GV)
 | []=>[]
 | t::r=>[pT t]::pTs r
end
abbrev qT (t:T):GV:=.box [.v (ii t.n.kind),.v (ii t.n.at_),.v (ii t.n.n),.v (sv t.n.s),.v (.slice none 0 0),.sl 1 (pTs t.kids)] 0
theorem pT_eq (t:T):pT t=qT t:=by cases t;rw [pT];rfl
theorem pTs_map (l:List T):pTs l=l.map fun t=>[qT t]:=by
 induction l with
 | nil=>rfl
 | cons t l ih=>rw [pTs,ih,pT_eq];rfl
theorem pTs_len (l:List T):(pTs l).length=l.length:=by rw [pTs_map];simp
theorem pTs_app (l:List T) (t:T):pTs (l++[t])=pTs l++[[qT t]]:=by rw [pTs_map,pTs_map];simp
theorem row_pT {l:List T} {i:Nat} {t:T} (h:l[i]?=some t):(pTs l)[i]?=some [qT t]:=by rw [pTs_map,List.getElem?_map,h];rfl
theorem newTree_n (k a:Int) (s:Str) (rows:List (List GV)):GF Tryz.prog 185 [.v (ii k),.v (ii a),.v (sv s),.sl 1 rows] [] (.loc 0 0) [.box 111 [.v (ii k),.v (ii a),.v (ii 0),.v (sv s),.v (.slice none 0 0),.sl 1 rows]]:=by
 refine GC.enter Tryz.func185 Tryz.ntmps185 rfl (by simp only [gframe,grep,Nat.reduceSub];rfl) ?_
 refine w_grun ?_
 refine GW.wk (Wk.cells 0 rfl (ds:=[.v (ii k),.v (ii a),.v (ii 0),.v (sv s),.v (.slice none 0 0),.sl 1 rows]) w_gle) ?_
 refine GW.ret ?_
 refine gbp1 (n:=1) rfl (by first | exact .inr rfl | exact .inl rfl) rfl (Nat.zero_le _) rfl rfl ?_
 exact ⟨rfl,rfl⟩
theorem newTree_g (k a:Int) (s:Str) (l:List T) (rows:List (List GV)) (h:pTs l=rows):GF Tryz.prog 185 [.v (ii k),.v (ii a),.v (sv s),.sl 1 rows] [] (qT (one k a s l)) []:=by
 subst h
 refine GC.enter Tryz.func185 Tryz.ntmps185 rfl (by simp only [gframe,grep,Nat.reduceSub];rfl) ?_
 refine w_grun ?_
 refine GW.wk (Wk.cells 0 rfl (ds:=[.v (ii k),.v (ii a),.v (ii 0),.v (sv s),.v (.slice none 0 0),.sl 1 (pTs l)]) w_gle) ?_
 refine GW.wk (Wk.freeze (i:=0) rfl rfl rfl (Nat.zero_le _)) ?_
 refine w_gret ?_
 exact ⟨rfl,rfl⟩
theorem levels_i:GF Tryz.prog 128 [] [] (.sl 1 (levels.map fun l=>[strs l])) []:=by
 refine GC.enter Tryz.func128 Tryz.ntmps128 rfl (by simp only [gframe,grep,Nat.reduceSub];rfl) ?_
 refine w_grun ?_
 iterate 10 (refine w_gmk ?_)
 refine w_grun ?_
 refine w_gret ?_
 exact ⟨rfl,rfl⟩
def idxOf (xs:List Str) (s:Str):Int:=match xs.findIdx? (fun x=>s==x) with | some i=>(i:Int) | none => -1
theorem Index_g (xs:List Str) (s:Str) (hl:xs.length≤1099511627776):GF Tryz.prog 173 [strs xs,.v (sv s)] [] (.v (ii (idxOf xs s))) []:=by
 refine GC.enter Tryz.func173 Tryz.ntmps173 rfl (by simp only [gframe,grep,Nat.reduceSub];rfl) ?_
 refine w_grun ?_
 refine GW.range (xs.map fun s=>[GV.v (sv s)]).length (fun k fr Γ=>fr=[strs xs,.v (sv s),.any,.any,.any,.any,strs xs,.v (ii ((xs.map fun s=>[GV.v (sv s)]).length:Int)),.v (ii (k:Nat)),.any,.any,.any,.any,.any,.any,.any,.any,.any,.any]∧Γ=[]∧((xs.take k).all fun x=>!(s==x))=true) ?_ (by simpa using hl) ?_ ?_ ?_
 ·exact ⟨_,_,Wk.frm w_wkf,rfl,rfl,rfl⟩
 ·rintro k _ _ ⟨rfl,rfl,_⟩;exact ⟨rfl,rfl,rfl⟩
 ·rintro k _ _ hlt ⟨rfl,rfl,hc⟩
  have hlt:k < xs.length:=by simpa using hlt
  have hx:xs[k]?=some xs[k]:=by simp [hlt]
  have hr:(xs.map fun s=>[GV.v (sv s)])[k]?=some [.v (sv xs[k])]:=by simp [hlt]
  cases hb:(s==xs[k]) with
  | true =>
   have hi:xs.findIdx? (fun x=>s==x)=some k:=by
    rw [List.findIdx?_eq_some_iff_getElem]
    refine ⟨hlt,hb,fun j hj=>?_⟩
    rw [List.all_eq_true] at hc
    have:=hc xs[j] (by rw [List.mem_take_iff_getElem];exact ⟨j,by omega,rfl⟩)
    simpa using this
   unfold idxOf
   rw [hi]
   generalize xs[k]=x at *
   refine w_grun ?_
   refine w_gret ?_
   exact ⟨rfl,rfl⟩
  | false =>
   have hstep:=all_step (q:=fun x=>!(s==x)) hx hc (by rw [hb];rfl)
   generalize xs[k]=x at *
   refine w_grun ?_
   exact ⟨rfl,rfl,_,_,Wk.frm w_wkf,rfl,rfl,hstep⟩
 ·rintro _ _ ⟨rfl,rfl,hc⟩
  rw [List.take_of_length_le (by simp)] at hc
  have hi:xs.findIdx? (fun x=>s==x)=none:=by
   rw [List.findIdx?_eq_none_iff];intro x hx
   rw [List.all_eq_true] at hc
   have:=hc x hx;simpa using this
  unfold idxOf
  rw [hi]
  refine w_grun ?_
  refine w_gret ?_
  exact ⟨rfl,rfl⟩
theorem idxOf_ge (xs:List Str) (s:Str):decide (0≤idxOf xs s)=xs.contains s:=by
 unfold idxOf
 cases h:xs.findIdx? (fun x=>s==x) with
 | some i =>
  rw [List.findIdx?_eq_some_iff_getElem] at h
  obtain ⟨h1,h2,_⟩:=h
  have h3:s=xs[i]:=by simpa using h2
  have:xs.contains s=true:=by rw [List.contains_iff_mem,h3];exact List.getElem_mem _
  rw [this];simp
 | none =>
  rw [List.findIdx?_eq_none_iff] at h
  have:xs.contains s=false:=by
   cases hc:xs.contains s with
   | false=>rfl
   | true=>have:=h s (List.contains_iff_mem.1 hc);simp at this
  rw [this];rfl
theorem Contains_g (xs:List Str) (s:Str) (hl:xs.length≤1099511627776):GF Tryz.prog 130 [strs xs,.v (sv s)] [] (.v (.bool (xs.contains s))) []:=by
 have hi:=Index_g xs s hl
 rw [←idxOf_ge]
 generalize idxOf xs s=i at *
 refine GC.enter Tryz.func130 Tryz.ntmps130 rfl (by simp only [gframe,grep,Nat.reduceSub];rfl) ?_
 refine w_grun ?_
 refine w_gcall [] (hi) ?_
 refine w_grun ?_
 refine w_gret ?_
 exact ⟨rfl,rfl⟩
end Go.Xg
namespace Go.Xg
open Go.RowKit Go.Xw Go.Proofs
open Go.Xp (Tok Nd T levels digs joinC szT szL)
open Go.Im (itoaI lvI brI lessI tiT tiL tiN wtI wtIs numT numTs)
attribute [local irreducible] GW GL GO YG GC GA gthn ginb
theorem decDigits_eq (n:Nat):Go.Lib.decDigits n=digs n:=by
 induction n using Nat.strongRecOn with
 | _ n ih =>
  unfold Go.Lib.decDigits digs
  split
  ·rfl
  ·rw [ih (n / 10) (by omega)]
theorem itoa_eq (n:Int):Go.Lib.itoa n=itoaI n:=by
 unfold Go.Lib.itoa itoaI
 rw [decDigits_eq,decDigits_eq]
theorem Itoa_g (n:Int) (h0 : -9223372036854775808≤n) (h1:n≤9223372036854775807):GF Tryz.prog 84 [.v (ii n)] [] (.v (sv (itoaI n))) []:=by
 refine GF.lib (vs:=[ii n]) fun K β w ht hf=>?_
 obtain ⟨E,z,hcell⟩:=TabB.all ht hf ht.pow (zs:=pow10T.map fun z=>Value.int .u64 z) (by decide) (fun m o x hx=>by
  rw [List.getElem?_map] at hx
  unfold KTab
  rw [if_neg (by decide),if_pos rfl]
  cases hs:pow10T[o]? with
  | none=>rw [hs] at hx;cases hx
  | some y=>rw [hs] at hx;cases hx;rfl)
 have htab:Go.Lib.TabIs Tryz.prog w "internal/strconv.uint64pow10" .u64 Go.Lib.pow10Tab:=by
  unfold Go.Lib.TabIs World.var?
  rw [show Tryz.prog.globalNamed "internal/strconv.uint64pow10" = some 1 by kernel_rfl,show Go.Lib.pow10Tab=pow10T by decide]
  simp only [Option.bind_some,hcell]
 refine Ret.of_calls' (Calls.mono (Tryz.strconv_Itoa n h0 h1 w htab) ?_)
 rintro e w' ⟨h2,k,os,h3⟩
 refine ⟨_,h2,by rw [itoa_eq];rfl,?_⟩
 subst h3
 refine ⟨rfl,rfl,rfl,by simp [Go.Sort.grow,World.drewN],fun j hj _=>?_⟩
 simp only [Go.Sort.grow,World.drewN]
 rw [Array.getElem?_append_left hj]
theorem levelOf1 (l:List Str) (s:Str) (hl:l.length≤1099511627776):GF Tryz.prog 129 [strs l,.box [.v (sv s)] 0] [] (.v (.bool (l.contains s))) []:=by
 have h:=Contains_g l s hl
 generalize l.contains s=b at *
 refine GC.enter Tryz.func129 Tryz.ntmps129 rfl (by simp only [gframe,grep,Nat.reduceSub];rfl) ?_
 refine w_grun ?_
 refine w_gcall [] (h) ?_
 refine w_grun ?_
 refine w_gret ?_
 exact ⟨rfl,rfl⟩
def levI (ls:List (List Str)) (s:Str):Int:=match ls.findIdx? (fun l=>l.contains s) with | some i=>(i:Int) | none => -1
theorem IndexFunc_l (ls:List (List Str)) (s:Str) (hn:ls.length≤1099511627776) (hl:∀ l∈ls,l.length≤1099511627776) :
  GF Tryz.prog 127 [.sl 1 (ls.map fun l=>[strs l]),.fn (.func 129) [] [.box [.v (sv s)] 0]] [] (.v (ii (levI ls s))) []:=by
 have hml:(ls.map fun l=>[strs l]).length=ls.length:=by simp
 refine GC.enter Tryz.func127 Tryz.ntmps127 rfl (by simp only [gframe,grep,Nat.reduceSub];rfl) ?_
 refine w_grun ?_
 refine GW.range (ls.map fun l=>[strs l]).length (fun k fr Γ=>fr=[.sl 1 (ls.map fun l=>[strs l]),.fn (.func 129) [] [.box [.v (sv s)] 0],.any,.any,.any,.any,.any,.v (ii ((ls.map fun l=>[strs l]).length:Int)),.v (ii (k:Nat)),.any,.any,.any,.any,.any,.any,.any,.any,.any,.any]∧Γ=[]∧(ls.take k).all (fun l=>!(l.contains s))=true) ?_ (by omega) ?_ ?_ ?_
 ·exact ⟨_,_,Wk.frm w_wkf,rfl,rfl,rfl⟩
 ·rintro k _ _ ⟨rfl,rfl,_⟩;exact ⟨rfl,rfl,rfl⟩
 ·rintro k _ _ hlt ⟨rfl,rfl,hall⟩
  rw [hml] at hlt
  have hki:ls[k]?=some ls[k]:=by simp [hlt]
  have hr:(ls.map fun l=>[strs l])[k]?=some [strs ls[k]]:=by rw [List.getElem?_map,hki];rfl
  have hc:=levelOf1 ls[k] s (hl _ (List.getElem_mem hlt))
  have hnext:(ls.take (k+1)).all (fun l=>!(l.contains s))=((ls.take k).all (fun l=>!(l.contains s))&&!(ls[k].contains s)):=by rw [List.take_add_one,hki,List.all_append];simp
  have hfi:ls[k].contains s=true→levI ls s=(k:Int):=fun h0=>by
   have:ls.findIdx? (fun l=>l.contains s)=some k:=by
    rw [List.findIdx?_eq_some_iff_getElem]
    refine ⟨hlt,h0,fun j hj=>?_⟩
    rw [List.all_eq_true] at hall
    have:=hall ls[j] (by rw [List.mem_take_iff_getElem];exact ⟨j,by omega,rfl⟩)
    simpa using this
   unfold levI;rw [this]
  generalize ls[k]=l at *
  cases hb:l.contains s with
  | true =>
   rw [hb] at hc
   rw [hfi hb]
   refine w_grun ?_
   refine w_gcallv [] (hc) ?_
   refine w_grun ?_
   refine w_gret ?_
   exact ⟨rfl,rfl⟩
  | false =>
   rw [hb] at hc hnext
   refine w_grun ?_
   refine w_gcallv [] (hc) ?_
   refine w_grun ?_
   exact ⟨rfl,rfl,_,_,Wk.frm w_wkf,rfl,rfl,by rw [hnext,hall];rfl⟩
 ·rintro _ _ ⟨rfl,rfl,hall⟩
  rw [hml,List.take_length] at hall
  have:ls.findIdx? (fun l=>l.contains s)=none:=by
   rw [List.findIdx?_eq_none_iff];intro x hx
   rw [List.all_eq_true] at hall
   simpa using hall x hx
  unfold levI;rw [this]
  refine w_grun ?_
  refine w_gret ?_
  exact ⟨rfl,rfl⟩
theorem levelOf_i (s:Str):GF Tryz.prog 87 [.v (sv s)] [] (.v (ii (lvI s))) []:=by
 have h1:=levels_i
 have h2:=IndexFunc_l levels s (by decide) (by decide)
 rw [show lvI s=levI levels s from rfl]
 generalize levI levels s=z at *
 generalize levels=ls at *
 refine GC.enter Tryz.func87 Tryz.ntmps87 rfl (by simp only [gframe,grep,Nat.reduceSub];rfl) ?_
 refine w_grun ?_
 refine GL.wk (Wk.freeze (i:=0) rfl rfl rfl (Nat.le_refl _)) ?_
 refine GN (by simp only [frzF,frzG];rfl) ?_
 refine w_gcall [] (h1) ?_
 refine w_grun ?_
 refine w_gcall [] (h2) ?_
 refine w_grun ?_
 refine w_gret ?_
 exact ⟨rfl,rfl⟩
end Go.Xg
namespace Go.Xg
open Go.RowKit Go.Xw Go.Proofs
open Go.Xp (Tok Nd T levels digs joinC szT szL)
open Go.Im (itoaI lvI brI lessI tiT tiL tiN wtI wtIs numT numTs kOk kOks kOkN)
attribute [local irreducible] GW GL GO YG GC GA gthn ginb
theorem less_i (t:T) (z:Int):GF Tryz.prog 88 [uT t,.v (ii z)] [] (.v (.bool (lessI t z))) []:=by
 have h:=levelOf_i t.n.s
 unfold lessI
 cases hk:(t.n.kind==6) with
 | true =>
  generalize lvI t.n.s=y at *
  refine GC.enter Tryz.func88 Tryz.ntmps88 rfl (by simp only [gframe,grep,Nat.reduceSub];rfl) ?_
  refine w_grun ?_
  refine w_gcall [] (h) ?_
  refine w_grun ?_
  refine w_gret ?_
  exact ⟨rfl,rfl⟩
 | false =>
  refine GC.enter Tryz.func88 Tryz.ntmps88 rfl (by simp only [gframe,grep,Nat.reduceSub];rfl) ?_
  refine w_grun ?_
  refine w_gret ?_
  exact ⟨rfl,rfl⟩
theorem bracketed_i (t:T) (b:Bool) (x:Str) (hx:x.length≤1099511627776) (h:GF Tryz.prog 37 [uT t] [] (.v (sv x)) []) :
  GF Tryz.prog 86 [uT t,.v (.bool b)] [] (.v (sv (brI b x))) []:=by
 unfold brI
 cases b with
 | true =>
  refine GC.enter Tryz.func86 Tryz.ntmps86 rfl (by simp only [gframe,grep,Nat.reduceSub];rfl) ?_
  refine w_grun ?_
  refine w_gcall [] (h) ?_
  refine w_grun ?_
  refine w_gret ?_
  exact ⟨rfl,rfl⟩
 | false =>
  refine GC.enter Tryz.func86 Tryz.ntmps86 rfl (by simp only [gframe,grep,Nat.reduceSub];rfl) ?_
  refine w_grun ?_
  refine w_gcall [] (h) ?_
  refine w_grun ?_
  refine w_gret ?_
  exact ⟨rfl,rfl⟩
theorem listed_i (ex:FuncId) [hf:Fun Tryz.prog ex] (tx:T→Str) (l:List T) (h:∀ t∈l,GF Tryz.prog ex [uT t] [] (.v (sv (tx t))) []) (hj:(joinC (l.map tx)).length≤1099511627776) (hl:l.length≤1099511627776) :
  GF Tryz.prog 85 [.sl 1 (tTs l),.v (.func (.func ex) #[] #[])] [] (.v (sv (joinC (l.map tx)))) []:=by
 have htl:=tTs_len l
 have hJ:=Join_g (l.map tx) hj (by simpa using hl)
 refine GC.enter Tryz.func85 Tryz.ntmps85 rfl (by simp only [gframe,grep,Nat.reduceSub];rfl) ?_
 refine w_grun ?_
 refine GW.wk (Wk.nilV (t:=5) (a:=none) (c:=0) 9 1 rfl) ?_
 refine GW.range (tTs l).length (fun k fr Γ=>∃ m rows,fr=[.sl 1 (tTs l),.v (.func (.func ex) #[] #[]),.any,.any,.any,.vec 0 m,.any,.any,.sl 1 (tTs l),.v (ii ((tTs l).length:Int)),.v (ii (k:Nat)),.any,.any,.any,.any,.any,.any,.any,.any,.any,.any,.any,.any]∧Γ=[.vec 9 1 0 rows]∧rows.length=m∧rows=((l.take k).map tx).map (fun s=>[GV.v (sv s)])∧m=k) ?_ (by omega) ?_ ?_ ?_
 ·exact ⟨_,_,Wk.frm w_wkf,0,[],rfl,rfl,rfl,rfl,rfl⟩
 ·rintro k _ _ ⟨m,rows,rfl,rfl,_⟩;exact ⟨rfl,rfl,rfl⟩
 ·rintro k _ _ hlt ⟨m,rows,rfl,rfl,hm,hrow,hmk⟩
  rw [htl] at hlt
  have hki:l[k]?=some l[k]:=by simp [hlt]
  have hr:=row_tT hki
  have ht:=h l[k] (List.getElem_mem hlt)
  have hnext:((l.take (k+1)).map tx).map (fun s=>[GV.v (sv s)])=rows++[[.v (sv (tx l[k]))]]:=by rw [List.take_add_one,hki,hrow,List.map_append,List.map_append];rfl
  generalize l[k]=t at *
  refine w_grun ?_
  refine w_gcallp [] (ht) ?_
  refine w_grun ?_
  refine w_gpush ?_
  refine w_grun ?_
  exact ⟨rfl,rfl,_,_,Wk.frm w_wkf,_,_,rfl,rfl,by simp [hm],hnext.symm,by omega⟩
 ·rintro _ _ ⟨m,rows,rfl,rfl,hm,hrow,hmk⟩
  rw [htl,List.take_length] at hrow
  refine gthn_n ?_
  refine GW.wk (Wk.snap (t:=5) rfl rfl rfl hm) ?_
  subst hrow
  refine w_grun ?_
  refine w_gcall [] (hJ) ?_
  refine w_grun ?_
  refine w_gret ?_
  exact ⟨rfl,rfl⟩
theorem kids1 {t:T} (h:kOkN t.n.kind t.kids.length=true) (hk:t.n.kind=3∨t.n.kind=5):∃ a,t.kids=[a]:=by
 have:t.kids.length=1:=by
  unfold kOkN at h
  rcases hk with hk | hk <;> rw [hk] at h <;> simp at h <;> omega
 match hl:t.kids,this with
 | [a],_=>exact ⟨a,rfl⟩
theorem kids2 {t:T} (h:kOkN t.n.kind t.kids.length=true) (hk:t.n.kind=6):∃ a b,t.kids=[a,b]:=by
 have:t.kids.length=2:=by
  unfold kOkN at h
  rw [hk] at h;simp at h;omega
 match hl:t.kids,this with
 | [a,b],_=>exact ⟨a,b,rfl⟩
theorem tight_i:∀ (N:Nat) (t:T),szT t≤N→kOk t=true→numT t→wtI t≤1099511627776→GF Tryz.prog 37 [uT t] [] (.v (sv (tiT t))) []:=by
 intro N
 induction N with
 | zero=>intro t h;rw [Go.Xp.szT_eq] at h;omega
 | succ N ih =>
 intro t hN hk hn hw
 have hlen:=Go.Im.tiT_len _ t (Nat.le_refl _) hn
 rw [Go.Xp.szT_eq] at hN
 rw [Go.Im.kOk_eq,Bool.and_eq_true,Go.Im.kOks_all,List.all_eq_true] at hk
 rw [Go.Im.numT_eq] at hn
 have hkid:∀ a∈t.kids,GF Tryz.prog 37 [uT a] [] (.v (sv (tiT a))) []∧(tiT a).length≤1099511627776:=fun a ha=>by
  have h1:=Go.Im.wtIs_mem ha
  rw [Go.Im.wtI_eq] at hw
  have h3:=Go.Im.numTs_mem hn.2 ha
  have h2:szT a≤szL t.kids:=by
   have:∀ (l:List T),a∈l→szT a≤szL l:=by
    intro l
    induction l with
    | nil=>intro h;cases h
    | cons b l ih2 =>
     intro h
     rw [szL]
     rcases List.mem_cons.1 h with rfl | h
     ·omega
     ·have:=ih2 h;omega
   exact this _ ha
  have h4:=Go.Im.tiT_len _ a (Nat.le_refl _) h3
  exact ⟨ih a (by omega) (hk.2 a ha) h3 (by omega),by omega⟩
 rw [Go.Im.tiT_eq] at hlen ⊢
 unfold tiN at hlen ⊢
 have hkn:=hk.1
 have hkc:=@kids1 t hkn
 have hkc2:=@kids2 t hkn
 have hni:=Itoa_g t.n.n hn.1.1 hn.1.2
 have hlv:=levelOf_i t.n.s
 have hkl:t.kids.length≤1099511627776:=by
  have:=Go.Im.len_wtIs t.kids
  rw [Go.Im.wtI_eq] at hw;omega
 have hlist:=fun hj=>listed_i 37 tiT t.kids (fun a ha=>(hkid a ha).1) hj hkl
 rw [←Go.Im.tiL_map] at hlist
 have hsl:t.n.s.length≤1099511627776:=by rw [Go.Im.wtI_eq] at hw;omega
 have hj0:(joinC (tiL t.kids)).length≤1099511627776:=by
  have h1:=Go.Im.joinC_le (tiL t.kids)
  have h2:((tiL t.kids).map fun y=>y.length+2).sum≤wtIs t.kids:=by
   have:∀ (l:List T),numTs l→((tiL l).map fun y=>y.length+2).sum≤wtIs l:=by
    intro l
    induction l with
    | nil=>intro _;simp [tiL]
    | cons a l ih2 =>
     intro h
     rw [numTs] at h
     have h1:=Go.Im.tiT_len _ a (Nat.le_refl _) h.1
     have h2:=ih2 h.2
     rw [tiL,wtIs,List.map_cons,List.sum_cons];omega
   exact this _ hn.2
  rw [Go.Im.wtI_eq] at hw;omega
 have hlist:=hlist hj0
 clear hj0
 unfold uT
 generalize hkk:t.n.kind=kd at *
 by_cases h1:kd=1
 ·subst h1
  have f1:((1:Int)==1)=true:=by decide
  rw [if_pos rfl]
  refine GC.enter Tryz.func37 Tryz.ntmps37 rfl (by simp only [gframe,grep,Nat.reduceSub];rfl) ?_
  refine w_grun ?_
  refine w_gcall [] (hni) ?_
  refine w_grun ?_
  refine w_gret ?_
  exact ⟨rfl,rfl⟩
 rw [if_neg h1] at hlen ⊢
 have g1:(kd==1)=false:=by simpa using h1
 by_cases h3:kd=3
 ·subst h3
  have f1:((3:Int)==1)=false:=by decide
  have f3:((3:Int)==3)=true:=by decide
  rw [if_pos rfl] at hlen ⊢
  obtain ⟨a,ha⟩:=hkc (.inl rfl)
  rw [ha] at hkid hlen ⊢
  obtain ⟨c1,c2⟩:=hkid a (List.mem_singleton.2 rfl)
  have hr:(tTs [a])[0]?=some [uT a]:=by rw [tTs_map];rfl
  simp only [tiL,List.getD_cons_zero] at hlen ⊢
  generalize tTs [a]=rows at *
  generalize tiT a=x at *
  refine GC.enter Tryz.func37 Tryz.ntmps37 rfl (by simp only [gframe,grep,Nat.reduceSub];rfl) ?_
  refine w_grun ?_
  refine GW.draw (.q 0 (.q 1 (.q 2 (.q 3 (.q 4 (.q 5 (.q 6 (.q 7 (.q 8 (.q 9 (.q 10 (.q 11 (.a 12 (.q 13 (.q 14 (.q 15 .nil)))))))))))))))) (by kernel_rfl) (by kernel_rfl) ?_
  refine w_gorun ?_
  refine w_gocall [] (c1) ?_
  refine w_gorun ?_
  refine w_grun ?_
  refine w_gret ?_
  exact ⟨rfl,rfl⟩
 rw [if_neg h3] at hlen ⊢
 have g3:(kd==3)=false:=by simpa using h3
 by_cases h4:kd=4
 ·subst h4
  have f1:((4:Int)==1)=false:=by decide
  have f3:((4:Int)==3)=false:=by decide
  have f4:((4:Int)==4)=true:=by decide
  rw [if_pos rfl] at hlen ⊢
  generalize tTs t.kids=rows at *
  generalize joinC (tiL t.kids)=x at *
  simp only [List.length_append,List.length_cons,List.length_nil] at hlen
  refine GC.enter Tryz.func37 Tryz.ntmps37 rfl (by simp only [gframe,grep,Nat.reduceSub];rfl) ?_
  refine w_grun ?_
  refine GW.draw (.q 0 (.q 1 (.q 2 (.q 3 (.q 4 (.q 5 (.q 6 (.q 7 (.q 8 (.q 9 (.a 10 (.q 11 (.q 12 (.q 13 .nil)))))))))))))) (by kernel_rfl) (by kernel_rfl) ?_
  refine w_gorun ?_
  refine w_gocall [] (hlist) ?_
  refine w_gorun ?_
  refine w_grun ?_
  refine w_gret ?_
  exact ⟨rfl,rfl⟩
 rw [if_neg h4] at hlen ⊢
 have g4:(kd==4)=false:=by simpa using h4
 by_cases h5:kd=5
 ·subst h5
  have f1:((5:Int)==1)=false:=by decide
  have f3:((5:Int)==3)=false:=by decide
  have f4:((5:Int)==4)=false:=by decide
  have f5:((5:Int)==5)=true:=by decide
  rw [if_pos rfl] at hlen ⊢
  obtain ⟨a,ha⟩:=hkc (.inr rfl)
  rw [ha] at hkid hlen ⊢
  obtain ⟨c1,c2⟩:=hkid a (List.mem_singleton.2 rfl)
  have hr:(tTs [a])[0]?=some [uT a]:=by rw [tTs_map];rfl
  simp only [tiL,List.getD_cons_zero] at hlen ⊢
  have hbr:=bracketed_i a (a.n.kind==6) (tiT a) c2 c1
  have hbl:=Go.Im.brI_len (a.n.kind==6) (tiT a)
  generalize tTs [a]=rows at *
  generalize hxx:brI (a.n.kind==6) (tiT a)=x at *
  refine GC.enter Tryz.func37 Tryz.ntmps37 rfl (by simp only [gframe,grep,Nat.reduceSub];rfl) ?_
  refine w_grun ?_
  refine GW.draw (.q 0 (.q 1 (.q 2 (.q 3 (.q 4 (.q 5 (.q 6 (.q 7 (.q 8 (.q 9 (.q 10 (.q 11 (.q 12 (.q 13 (.q 14 (.q 15 (.q 16 (.q 17 (.q 18 (.q 19 (.q 20 (.q 21 (.q 22 (.a 23 (.q 24 (.q 25 .nil)))))))))))))))))))))))))) (by kernel_rfl) (by kernel_rfl) ?_
  refine w_gorun ?_
  refine w_gocall [] (hbr) ?_
  refine w_gorun ?_
  refine w_grun ?_
  refine w_gret ?_
  exact ⟨rfl,rfl⟩
 rw [if_neg h5] at hlen ⊢
 have g5:(kd==5)=false:=by simpa using h5
 by_cases h6:kd=6
 ·subst h6
  have f1:((6:Int)==1)=false:=by decide
  have f3:((6:Int)==3)=false:=by decide
  have f4:((6:Int)==4)=false:=by decide
  have f5:((6:Int)==5)=false:=by decide
  have f6:((6:Int)==6)=true:=by decide
  rw [if_pos rfl] at hlen ⊢
  obtain ⟨a,b,ha⟩:=hkc2 rfl
  rw [ha] at hkid hlen ⊢
  obtain ⟨c1,c2⟩:=hkid a (List.mem_cons_self)
  obtain ⟨d1,d2⟩:=hkid b (List.mem_cons_of_mem _ List.mem_cons_self)
  have hr:(tTs [a,b])[0]?=some [uT a]:=by rw [tTs_map];rfl
  have hr1:(tTs [a,b])[1]?=some [uT b]:=by rw [tTs_map];rfl
  simp only [tiL,List.getD_cons_zero,List.getD_cons_succ] at hlen ⊢
  have hlv1 : -1≤lvI t.n.s∧lvI t.n.s≤9:=by
   unfold lvI
   cases hf:levels.findIdx? (fun l=>l.contains t.n.s) with
   | none=>simp
   | some i =>
    rw [List.findIdx?_eq_some_iff_getElem] at hf
    have:=hf.1
    have h9:levels.length=9:=by decide
    simp only;omega
  generalize lvI t.n.s=lv at *
  have hl1:=less_i a lv
  have hl2:=less_i b (lv+1)
  have hbr:=bracketed_i a (lessI a lv) (tiT a) c2 c1
  have hbr2:=bracketed_i b (lessI b (lv+1)) (tiT b) d2 d1
  generalize tTs [a,b]=rows at *
  generalize hxx:brI (lessI a lv) (tiT a)=x at *
  generalize hyy:brI (lessI b (lv+1)) (tiT b)=y at *
  simp only [List.length_append,List.length_cons,List.length_nil] at hlen
  refine GC.enter Tryz.func37 Tryz.ntmps37 rfl (by simp only [gframe,grep,Nat.reduceSub];rfl) ?_
  refine w_grun ?_
  refine w_gcall [] (hlv) ?_
  refine w_grun ?_
  refine GW.draw (.q 0 (.q 1 (.q 2 (.q 3 (.q 4 (.q 5 (.q 6 (.q 7 (.q 8 (.q 9 (.q 10 (.q 11 (.q 12 (.q 13 (.q 17 (.q 18 (.q 19 (.q 20 (.q 21 (.q 24 (.q 25 (.q 26 (.q 27 (.q 28 (.q 29 (.q 30 (.q 31 (.q 32 (.q 33 (.q 34 (.q 35 (.q 36 (.q 37 (.q 38 (.a 14 (.a 15 (.q 16 (.q 22 (.q 23 (.a 39 (.a 40 (.q 41 (.q 42 .nil))))))))))))))))))))))))))))))))))))))))))) (by kernel_rfl) (by kernel_rfl) ?_
  refine w_gorun ?_
  refine w_gocallp [] (hl1) ?_
  refine w_gorun ?_
  refine w_gocall [] (hbr) ?_
  refine w_gorun ?_
  refine w_gocallp [] (hl2) ?_
  refine w_gorun ?_
  refine w_gocall [] (hbr2) ?_
  refine w_gorun ?_
  refine w_grun ?_
  refine w_gret ?_
  exact ⟨rfl,rfl⟩
 rw [if_neg h6]
 have g6:(kd==6)=false:=by simpa using h6
 refine GC.enter Tryz.func37 Tryz.ntmps37 rfl (by simp only [gframe,grep,Nat.reduceSub];rfl) ?_
 refine w_grun ?_
 refine w_gret ?_
 exact ⟨rfl,rfl⟩
end Go.Xg
set_option maxHeartbeats 2000000
namespace Go.Xg
open Go.RowKit Go.Xw Go.Proofs
open Go.Xp (Tok Nd T levels digs joinC szT szL)
open Go.Im
attribute [local irreducible] GW GL GO YG GC GA gthn ginb
abbrev fnv (f:FuncId):Value:=.func (.func f) #[] #[]
theorem inLine_i (l:List Str) (d:Nat) (hb:(inl1 l d).length≤1099511627776) (hl:l.length≤1099511627776):GF Tryz.prog 76 [strs l,.v (ii (d:Nat))] [] (.v (sv (inl1 l d))) []:=by
 have hml:(l.map fun s=>[GV.v (sv s)]).length=l.length:=by simp
 have hcl:=catB_len l [123,32]
 unfold inl1 at hb ⊢
 rw [List.length_append,hcl] at hb
 refine GC.enter Tryz.func76 Tryz.ntmps76 rfl (by simp only [gframe,grep,Nat.reduceSub];rfl) ?_
 refine w_grun ?_
 refine GW.range (l.map fun s=>[GV.v (sv s)]).length (fun k fr Γ=>fr=[strs l,.any,.any,.any,.any,.v (sv (catB [123,32] (l.take k))),.any,.any,strs l,.v (ii ((l.map fun s=>[GV.v (sv s)]).length:Int)),.v (ii (k:Nat)),.any,.any,.any,.any,.any,.any,.any,.any,.any,.any]∧Γ=[]) ?_ (by omega) ?_ ?_ ?_
 ·exact ⟨_,_,Wk.frm w_wkf,rfl,rfl⟩
 ·rintro k _ _ ⟨rfl,rfl⟩;exact ⟨rfl,rfl,rfl⟩
 ·rintro k _ _ hlt ⟨rfl,rfl⟩
  rw [hml] at hlt
  have hki:l[k]?=some l[k]:=by simp [hlt]
  have hkr:(l.map fun s=>[GV.v (sv s)])[k]?=some [.v (sv l[k])]:=by rw [List.getElem?_map,hki];rfl
  have h1:=catB_len (l.take (k+1)) [123,32]
  have h2:=sumB_take l (k+1)
  have hz:sumB (l.take (k+1))=sumB (l.take k)+(l[k].length+1):=by rw [List.take_add_one,hki,sumB_app];simp [sumB]
  have h3:=catB_len (l.take k) [123,32]
  rw [show l.take (k+1)=l.take k++[l[k]] by rw [List.take_add_one,hki];rfl,catB_snoc] at ⊢
  generalize l[k]=z at *
  generalize catB [123,32] (l.take k)=acc at *
  simp only [List.length_cons,List.length_nil] at h3 hb
  have hfin:acc.length+z.length+3≤1099511627777:=by omega
  refine w_grun ?_
  exact ⟨rfl,rfl,_,_,Wk.frm w_wkf,rfl,rfl⟩
 ·rintro _ _ ⟨rfl,rfl⟩
  rw [hml,List.take_length]
  generalize catB [123,32] l=acc at *
  simp only [List.length_append,List.length_cons,List.length_nil] at hcl hb
  refine w_grun ?_
  refine w_gret ?_
  exact ⟨rfl,rfl⟩
theorem one_i (ex bk:FuncId) [hf:Fun Tryz.prog ex] (tx:T→Str) (t a:T) (k:Nat) (hk:t.kids[k]?=some a) (h:GF Tryz.prog ex [uT a] [] (.v (sv (tx a))) []) :
  GF Tryz.prog 193 [.v (ii (k:Nat)),.box [.v (fnv ex),.v (fnv bk)] 0,.box [uT t] 0] [] (.v (sv (tx a))) []:=by
 have hr:=row_tT hk
 generalize tx a=x at *
 refine GC.enter Tryz.func193 Tryz.ntmps193 rfl (by simp only [gframe,grep,Nat.reduceSub];rfl) ?_
 refine w_grun ?_
 refine GW.draw (.q 0 (.q 1 (.q 2 (.q 3 (.q 4 (.q 5 (.q 6 (.q 7 (.q 8 (.a 9 (.q 10 .nil))))))))))) (by kernel_rfl) (by kernel_rfl) ?_
 refine w_gorun ?_
 refine w_gocallp [] (h) ?_
 refine w_gorun ?_
 refine w_grun ?_
 refine w_gret ?_
 exact ⟨rfl,rfl⟩
end Go.Xg
namespace Go.Xg
open Go.RowKit Go.Xw Go.Proofs
open Go.Xp (Tok Nd T levels digs joinC szT szL)
open Go.Im
attribute [local irreducible] GW GL GO YG GC GA gthn ginb
structure Wr (ex bk:FuncId) (tx:T→Str) (inl:List Str→Nat→Str):Prop where
 expr:∀ a,kOk a=true→numT a→wtI a≤1099511627776→GF Tryz.prog ex [uT a] [] (.v (sv (tx a))) []
 block:∀ l (d:Nat),(inl l d).length≤1099511627776→l.length≤1099511627776→d≤1099511627776→GF Tryz.prog bk [strs l,.v (ii (d:Nat))] [] (.v (sv (inl l d))) []
 mem:∀ l d s,s∈l→s.length≤(inl l d).length
theorem blockText_i (ex bk:FuncId) [he:Fun Tryz.prog ex] [hb:Fun Tryz.prog bk] (tx:T→Str) (inl:List Str→Nat→Str) (W:Wr ex bk tx inl) (t:T) (d:Nat) (hd:d+1≤1099511627776) (hl:t.kids.length≤1099511627776) (hlen:(blT tx inl d t).length≤1099511627776)
  (h:∀ a∈t.kids,(stT tx inl (d+1) a).length≤1099511627776→GF Tryz.prog 152 [.agg [.v (fnv ex),.v (fnv bk)],uT a,.v (ii ((d+1:Nat):Int))] [] (.v (sv (stT tx inl (d+1) a))) []) :
  GF Tryz.prog 110 [.agg [.v (fnv ex),.v (fnv bk)],uT t,.v (ii (d:Nat))] [] (.v (sv (blT tx inl d t))) []:=by
 have htl:=tTs_len t.kids
 rw [blT_eq,stL_map] at hlen ⊢
 have hblk:=W.block (t.kids.map (stT tx inl (d+1))) d hlen (by simpa using hl) (by omega)
 have hk:∀ a∈t.kids,GF Tryz.prog 152 [.agg [.v (fnv ex),.v (fnv bk)],uT a,.v (ii ((d+1:Nat):Int))] [] (.v (sv (stT tx inl (d+1) a))) []:=fun a ha =>
  h a ha (Nat.le_trans (W.mem _ d _ (List.mem_map.2 ⟨a,ha,rfl⟩)) hlen)
 generalize inl (t.kids.map (stT tx inl (d+1))) d=y at *
 refine GC.enter Tryz.func110 Tryz.ntmps110 rfl (by simp only [gframe,grep,Nat.reduceSub];rfl) ?_
 refine w_grun ?_
 refine GW.wk (Wk.nilV (t:=7) (a:=none) (c:=0) 9 1 rfl) ?_
 refine GW.range (tTs t.kids).length (fun k fr Γ=>∃ m rows,fr=[.any,.any,.v (ii (d:Nat)),.loc 0 0,.any,.any,.any,.vec 1 m,.any,.any,.any,.any,.any,.sl 1 (tTs t.kids),.v (ii ((tTs t.kids).length:Int)),.v (ii (k:Nat)),.any,.any,.any,.any,.any,.any,.any,.any,.any,.any,.any,.any,.any,.any,.any,.any,.any]∧Γ=[.box 136 [.v (fnv ex),.v (fnv bk)],.vec 9 1 0 rows]∧rows.length=m∧rows=((t.kids.take k).map (stT tx inl (d+1))).map (fun s=>[GV.v (sv s)])∧m=k) ?_ (by omega) ?_ ?_ ?_
 ·exact ⟨_,_,Wk.frm w_wkf,0,[],rfl,rfl,rfl,rfl,rfl⟩
 ·rintro k _ _ ⟨m,rows,rfl,rfl,_⟩;exact ⟨rfl,rfl,rfl⟩
 ·rintro k _ _ hlt ⟨m,rows,rfl,rfl,hm,hrow,hmk⟩
  rw [htl] at hlt
  have hki:t.kids[k]?=some t.kids[k]:=by simp [hlt]
  have hr:=row_tT hki
  have ht:=hk t.kids[k] (List.getElem_mem hlt)
  have hnext:((t.kids.take (k+1)).map (stT tx inl (d+1))).map (fun s=>[GV.v (sv s)])=rows++[[.v (sv (stT tx inl (d+1) t.kids[k]))]]:=by rw [List.take_add_one,hki,hrow,List.map_append,List.map_append];rfl
  generalize t.kids[k]=kid at *
  generalize stT tx inl (d+1) kid=z at *
  refine w_grun ?_
  refine w_gcall [] (ht) ?_
  refine w_grun ?_
  refine w_gpush ?_
  refine w_grun ?_
  exact ⟨rfl,rfl,_,_,Wk.frm w_wkf,_,_,rfl,rfl,by simp [hm],hnext.symm,by omega⟩
 ·rintro _ _ ⟨m,rows,rfl,rfl,hm,hrow,hmk⟩
  rw [htl,List.take_length] at hrow
  refine gthn_n ?_
  refine GW.wk (Wk.snap (t:=7) rfl rfl rfl hm) ?_
  subst hrow
  refine w_grun ?_
  refine w_gcallp [] (hblk) ?_
  refine w_grun ?_
  refine w_gret ?_
  exact ⟨rfl,rfl⟩
theorem kidsN {t:T} {n:Nat} (h:kOkN t.n.kind t.kids.length=true) (hk:(n=1∧(t.n.kind=13∨t.n.kind=7∨t.n.kind=11∨t.n.kind=12))∨(n=2∧(t.n.kind=8∨t.n.kind=10))):t.kids.length=n:=by
 unfold kOkN at h
 rcases hk with ⟨rfl,hk⟩ | ⟨rfl,hk⟩
 ·rcases hk with hk | hk | hk | hk <;> rw [hk] at h <;> simp at h <;> omega
 ·rcases hk with hk | hk <;> rw [hk] at h <;> simp at h <;> omega
theorem kids23 {t:T} (h:kOkN t.n.kind t.kids.length=true) (hk:t.n.kind=9):t.kids.length=2∨t.kids.length=3:=by
 unfold kOkN at h
 rw [hk] at h;simp at h;omega
theorem statement_i (ex bk:FuncId) [he:Fun Tryz.prog ex] [hb:Fun Tryz.prog bk] (tx:T→Str) (inl:List Str→Nat→Str) (W:Wr ex bk tx inl):∀ (N:Nat) (t:T),szT t≤N→kOk t=true→numT t→wtI t≤1099511627776→∀ d,d+szT t≤1099511627776→(stT tx inl d t).length≤1099511627776 →
  GF Tryz.prog 152 [.agg [.v (fnv ex),.v (fnv bk)],uT t,.v (ii (d:Nat))] [] (.v (sv (stT tx inl d t))) []:=by
 intro N
 induction N with
 | zero=>intro t h;rw [Go.Xp.szT_eq] at h;omega
 | succ N ih =>
 intro t hN hk hn hw d hd hlen
 have hown:=W.expr t hk hn hw
 rw [Go.Xp.szT_eq] at hN hd
 rw [Go.Im.kOk_eq,Bool.and_eq_true,Go.Im.kOks_all,List.all_eq_true] at hk
 rw [Go.Im.numT_eq] at hn
 have hwe:=Go.Im.wtI_eq t
 have hszm:∀ (l:List T) (a:T),a∈l→szT a≤szL l:=by
  intro l
  induction l with
  | nil=>intro a h;cases h
  | cons b l ih2 =>
   intro a h
   rw [szL]
   rcases List.mem_cons.1 h with rfl | h
   ·omega
   ·have:=ih2 a h;omega
 have hone:=fun (k:Nat) (a:T) (hka:t.kids[k]?=some a)=>one_i ex bk tx t a k hka (W.expr a (hk.2 a (List.mem_of_getElem? hka)) (Go.Im.numTs_mem hn.2 (List.mem_of_getElem? hka)) (by have:=Go.Im.wtIs_mem (List.mem_of_getElem? hka);omega))
 have hblk:∀ a∈t.kids,(blT tx inl d a).length≤1099511627776→GF Tryz.prog 110 [.agg [.v (fnv ex),.v (fnv bk)],uT a,.v (ii (d:Nat))] [] (.v (sv (blT tx inl d a))) []:=fun a ha hla=>by
  have h1:=hszm _ a ha
  have h2:=Go.Im.wtIs_mem ha
  have h3:=hk.2 a ha
  have h4:=Go.Im.numTs_mem hn.2 ha
  rw [Go.Im.kOk_eq,Bool.and_eq_true,Go.Im.kOks_all,List.all_eq_true] at h3
  rw [Go.Im.numT_eq] at h4
  have h5:=Go.Xp.szT_eq a
  have h6:=Go.Xp.len_le_szL a.kids
  have h7:=Go.Im.wtI_eq a
  refine blockText_i ex bk tx inl W a d (by omega) (by omega) hla fun b hb2 hlb=>?_
  have h8:=hszm _ b hb2
  have h9:=Go.Im.wtIs_mem hb2
  exact ih b (by omega) (h3.2 b hb2) (Go.Im.numTs_mem h4.2 hb2) (by omega) (d+1) (by omega) hlb
 rw [stT_eq] at hlen ⊢
 unfold stN at hlen ⊢
 rw [blL_map] at hlen ⊢
 have hkn:=@kidsN t
 have hkn9:=@kids23 t hk.1
 have hkn:=fun n=>@hkn n hk.1
 unfold uT at hown ⊢
 unfold uT at hone
 generalize hkk:t.n.kind=kd at *
 by_cases h13:kd=13
 ·subst h13
  have f13:((13:Int)==13)=true:=by decide
  rw [if_pos rfl] at hlen ⊢
  have hl1:=hkn 1 (.inl ⟨rfl,.inl rfl⟩)
  obtain ⟨a,ha⟩:∃ a,t.kids=[a]:=by
   match hl:t.kids,hl1 with
   | [a],_=>exact ⟨a,rfl⟩
  have h0:=hone 0 a (by rw [ha];rfl)
  rw [ha] at hlen ⊢
  rw [ha] at h0
  simp only [List.map_cons,List.map_nil,List.getD_cons_zero,List.length_append,List.length_cons,List.length_nil] at hlen ⊢
  generalize tx a=x at *
  generalize tTs [a]=rows at *
  refine GC.enter Tryz.func152 Tryz.ntmps152 rfl (by simp only [gframe,grep,Nat.reduceSub];rfl) ?_
  refine w_grunf ?_
  refine GL.wk (Wk.freeze (i:=0) rfl rfl rfl (Nat.zero_le _)) ?_
  refine GL.wk (Wk.freeze (i:=1) rfl rfl rfl (Nat.zero_le _)) ?_
  refine GN (by simp only [frzF,frzG];rfl) ?_
  refine w_grun ?_
  refine GW.draw (.q 0 (.q 1 (.q 2 (.q 3 (.q 4 (.q 5 (.q 6 (.q 7 (.a 8 (.q 9 (.q 10 (.q 11 .nil)))))))))))) (by kernel_rfl) (by kernel_rfl) ?_
  refine w_gorun ?_
  refine w_gocallv [] (h0) ?_
  refine w_gorun ?_
  refine w_grun ?_
  refine w_gret ?_
  exact ⟨rfl,rfl⟩
 rw [if_neg h13] at hlen ⊢
 have g13:(kd==13)=false:=by simpa using h13
 by_cases h7:kd=7
 ·subst h7
  have f13:((7:Int)==13)=false:=by decide
  have f7:((7:Int)==7)=true:=by decide
  rw [if_pos rfl] at hlen ⊢
  have hl1:=hkn 1 (.inl ⟨rfl,.inr (.inl rfl)⟩)
  obtain ⟨a,ha⟩:∃ a,t.kids=[a]:=by
   match hl:t.kids,hl1 with
   | [a],_=>exact ⟨a,rfl⟩
  have h0:=hone 0 a (by rw [ha];rfl)
  rw [ha] at hlen ⊢
  rw [ha] at h0
  simp only [List.map_cons,List.map_nil,List.getD_cons_zero,List.length_append,List.length_cons,List.length_nil] at hlen ⊢
  generalize tx a=x at *
  generalize tTs [a]=rows at *
  refine GC.enter Tryz.func152 Tryz.ntmps152 rfl (by simp only [gframe,grep,Nat.reduceSub];rfl) ?_
  refine w_grunf ?_
  refine GL.wk (Wk.freeze (i:=0) rfl rfl rfl (Nat.zero_le _)) ?_
  refine GL.wk (Wk.freeze (i:=1) rfl rfl rfl (Nat.zero_le _)) ?_
  refine GN (by simp only [frzF,frzG];rfl) ?_
  refine w_grun ?_
  refine GW.draw (.q 0 (.q 1 (.q 2 (.q 3 (.q 4 (.q 5 (.q 6 (.a 7 (.q 8 (.q 9 (.q 10 .nil))))))))))) (by kernel_rfl) (by kernel_rfl) ?_
  refine w_gorun ?_
  refine w_gocallv [] (h0) ?_
  refine w_gorun ?_
  refine w_grun ?_
  refine w_gret ?_
  exact ⟨rfl,rfl⟩
 rw [if_neg h7] at hlen ⊢
 have g7:(kd==7)=false:=by simpa using h7
 by_cases h8:kd=8
 ·subst h8
  have f13:((8:Int)==13)=false:=by decide
  have f7:((8:Int)==7)=false:=by decide
  have f8:((8:Int)==8)=true:=by decide
  rw [if_pos rfl] at hlen ⊢
  have hl1:=hkn 2 (.inr ⟨rfl,.inl rfl⟩)
  obtain ⟨a,b,ha⟩:∃ a b,t.kids=[a,b]:=by
   match hl:t.kids,hl1 with
   | [a,b],_=>exact ⟨a,b,rfl⟩
  have h0:=hone 0 a (by rw [ha];rfl)
  have h1:=hone 1 b (by rw [ha];rfl)
  rw [ha] at hlen ⊢
  rw [ha] at h0 h1
  simp only [List.map_cons,List.map_nil,List.getD_cons_zero,List.getD_cons_succ,List.length_append,List.length_cons,List.length_nil] at hlen ⊢
  generalize tx a=x at *
  generalize tx b=y at *
  generalize tTs [a,b]=rows at *
  refine GC.enter Tryz.func152 Tryz.ntmps152 rfl (by simp only [gframe,grep,Nat.reduceSub];rfl) ?_
  refine w_grunf ?_
  refine GL.wk (Wk.freeze (i:=0) rfl rfl rfl (Nat.zero_le _)) ?_
  refine GL.wk (Wk.freeze (i:=1) rfl rfl rfl (Nat.zero_le _)) ?_
  refine GN (by simp only [frzF,frzG];rfl) ?_
  refine w_grun ?_
  refine GW.draw (.q 0 (.q 1 (.q 2 (.q 3 (.q 4 (.q 5 (.q 6 (.q 10 (.a 7 (.q 8 (.q 9 (.a 11 (.q 12 (.q 13 (.q 14 .nil))))))))))))))) (by kernel_rfl) (by kernel_rfl) ?_
  refine w_gorun ?_
  refine w_gocallv [] (h0) ?_
  refine w_gorun ?_
  refine w_gocallv [] (h1) ?_
  refine w_gorun ?_
  refine w_grun ?_
  refine w_gret ?_
  exact ⟨rfl,rfl⟩
 rw [if_neg h8] at hlen ⊢
 have g8:(kd==8)=false:=by simpa using h8
 by_cases h9:kd=9
 ·subst h9
  have f13:((9:Int)==13)=false:=by decide
  have f7:((9:Int)==7)=false:=by decide
  have f8:((9:Int)==8)=false:=by decide
  have f9:((9:Int)==9)=true:=by decide
  rw [if_pos rfl] at hlen ⊢
  rcases hkn9 rfl with hl1 | hl1
  ·skip
   obtain ⟨a,b,ha⟩:∃ a b,t.kids=[a,b]:=by
    match hl:t.kids,hl1 with
    | [a,b],_=>exact ⟨a,b,rfl⟩
   have h0:=hone 0 a (by rw [ha];rfl)
   have hr1:(tTs [a,b])[1]?=some [uT b]:=by rw [tTs_map];rfl
   have hrl0:(tTs [a,b]).length=2:=by rw [tTs_len];rfl
   have hrl:(((tTs [a,b]).length:Int)==3)=false:=by rw [hrl0];decide
   rw [ha] at hlen ⊢
   rw [ha] at h0
   rw [if_neg (by simp)] at hlen ⊢
   simp only [List.map_cons,List.map_nil,List.getD_cons_zero,List.getD_cons_succ,List.length_append,List.length_cons,List.length_nil] at hlen ⊢
   have hb1:=hblk b (by rw [ha];simp) (by omega)
   generalize tx a=x at *
   generalize blT tx inl d b=y at *
   clear hblk hone ih
   generalize tTs [a,b]=rows at *
   refine GC.enter Tryz.func152 Tryz.ntmps152 rfl (by simp only [gframe,grep,Nat.reduceSub];rfl) ?_
   refine w_grunf ?_
   refine GL.wk (Wk.freeze (i:=0) rfl rfl rfl (Nat.zero_le _)) ?_
   refine GL.wk (Wk.freeze (i:=1) rfl rfl rfl (Nat.zero_le _)) ?_
   refine GN (by simp only [frzF,frzG];rfl) ?_
   refine w_grun ?_
   refine GW.draw (.q 0 (.q 4 (.q 5 (.q 6 (.q 7 (.q 8 (.q 9 (.q 10 (.q 11 (.a 1 (.q 2 (.q 3 (.a 12 (.q 13 (.q 14 .nil))))))))))))))) (by kernel_rfl) (by kernel_rfl) ?_
   refine w_gorun ?_
   refine w_gocallv [] (h0) ?_
   refine w_gorun ?_
   refine w_gocall [] (hb1) ?_
   refine w_gorun ?_
   refine w_grun ?_
   refine w_gret ?_
   exact ⟨rfl,rfl⟩
  ·skip
   obtain ⟨a,b,c,ha⟩:∃ a b c,t.kids=[a,b,c]:=by
    match hl:t.kids,hl1 with
    | [a,b,c],_=>exact ⟨a,b,c,rfl⟩
   have h0:=hone 0 a (by rw [ha];rfl)
   have hr1:(tTs [a,b,c])[1]?=some [uT b]:=by rw [tTs_map];rfl
   have hr2:(tTs [a,b,c])[2]?=some [uT c]:=by rw [tTs_map];rfl
   have hrl0:(tTs [a,b,c]).length=3:=by rw [tTs_len];rfl
   have hrl:(((tTs [a,b,c]).length:Int)==3)=true:=by rw [hrl0];decide
   rw [ha] at hlen ⊢
   rw [ha] at h0
   rw [if_pos (by simp)] at hlen ⊢
   simp only [List.map_cons,List.map_nil,List.getD_cons_zero,List.getD_cons_succ,List.length_append,List.length_cons,List.length_nil] at hlen ⊢
   have hb1:=hblk b (by rw [ha];simp) (by omega)
   have hb2:=hblk c (by rw [ha];simp) (by omega)
   generalize tx a=x at *
   generalize blT tx inl d b=y at *
   generalize blT tx inl d c=z at *
   clear hblk hone ih
   generalize tTs [a,b,c]=rows at *
   refine GC.enter Tryz.func152 Tryz.ntmps152 rfl (by simp only [gframe,grep,Nat.reduceSub];rfl) ?_
   refine w_grunf ?_
   refine GL.wk (Wk.freeze (i:=0) rfl rfl rfl (Nat.zero_le _)) ?_
   refine GL.wk (Wk.freeze (i:=1) rfl rfl rfl (Nat.zero_le _)) ?_
   refine GN (by simp only [frzF,frzG];rfl) ?_
   refine w_grun ?_
   refine GW.draw (.q 0 (.q 4 (.q 5 (.q 6 (.q 7 (.q 8 (.q 9 (.q 10 (.q 11 (.a 1 (.q 2 (.q 3 (.a 12 (.q 13 (.q 14 .nil))))))))))))))) (by kernel_rfl) (by kernel_rfl) ?_
   refine w_gorun ?_
   refine w_gocallv [] (h0) ?_
   refine w_gorun ?_
   refine w_gocall [] (hb1) ?_
   refine w_gorun ?_
   refine w_grun ?_
   refine GW.draw (.q 0 (.q 1 (.q 2 (.q 3 (.q 4 (.q 5 (.q 6 (.q 7 (.q 8 (.a 9 (.q 10 (.q 11 (.q 12 .nil))))))))))))) (by kernel_rfl) (by kernel_rfl) ?_
   refine w_gorun ?_
   refine w_gocall [] (hb2) ?_
   refine w_gorun ?_
   refine w_grun ?_
   refine w_gret ?_
   exact ⟨rfl,rfl⟩
 rw [if_neg h9] at hlen ⊢
 have g9:(kd==9)=false:=by simpa using h9
 by_cases h10:kd=10
 ·subst h10
  have f13:((10:Int)==13)=false:=by decide
  have f7:((10:Int)==7)=false:=by decide
  have f8:((10:Int)==8)=false:=by decide
  have f9:((10:Int)==9)=false:=by decide
  have f10:((10:Int)==10)=true:=by decide
  rw [if_pos rfl] at hlen ⊢
  have hl1:=hkn 2 (.inr ⟨rfl,.inr rfl⟩)
  ·skip
   obtain ⟨a,b,ha⟩:∃ a b,t.kids=[a,b]:=by
    match hl:t.kids,hl1 with
    | [a,b],_=>exact ⟨a,b,rfl⟩
   have h0:=hone 0 a (by rw [ha];rfl)
   have hr1:(tTs [a,b])[1]?=some [uT b]:=by rw [tTs_map];rfl
   have hrl0:(tTs [a,b]).length=2:=by rw [tTs_len];rfl
   have hrl:(((tTs [a,b]).length:Int)==3)=false:=by rw [hrl0];decide
   rw [ha] at hlen ⊢
   rw [ha] at h0
   simp only [List.map_cons,List.map_nil,List.getD_cons_zero,List.getD_cons_succ,List.length_append,List.length_cons,List.length_nil] at hlen ⊢
   have hb1:=hblk b (by rw [ha];simp) (by omega)
   generalize tx a=x at *
   generalize blT tx inl d b=y at *
   clear hblk hone ih
   generalize tTs [a,b]=rows at *
   refine GC.enter Tryz.func152 Tryz.ntmps152 rfl (by simp only [gframe,grep,Nat.reduceSub];rfl) ?_
   refine w_grunf ?_
   refine GL.wk (Wk.freeze (i:=0) rfl rfl rfl (Nat.zero_le _)) ?_
   refine GL.wk (Wk.freeze (i:=1) rfl rfl rfl (Nat.zero_le _)) ?_
   refine GN (by simp only [frzF,frzG];rfl) ?_
   refine w_grun ?_
   refine GW.draw (.q 0 (.q 4 (.q 5 (.q 6 (.q 7 (.q 8 (.q 9 (.q 10 (.q 11 (.a 1 (.q 2 (.q 3 (.a 12 (.q 13 (.q 14 .nil))))))))))))))) (by kernel_rfl) (by kernel_rfl) ?_
   refine w_gorun ?_
   refine w_gocallv [] (h0) ?_
   refine w_gorun ?_
   refine w_gocall [] (hb1) ?_
   refine w_gorun ?_
   refine w_grun ?_
   refine w_gret ?_
   exact ⟨rfl,rfl⟩
 rw [if_neg h10] at hlen ⊢
 have g10:(kd==10)=false:=by simpa using h10
 by_cases h11:kd=11
 ·subst h11
  have f13:((11:Int)==13)=false:=by decide
  have f7:((11:Int)==7)=false:=by decide
  have f8:((11:Int)==8)=false:=by decide
  have f9:((11:Int)==9)=false:=by decide
  have f10:((11:Int)==10)=false:=by decide
  have f11:((11:Int)==11)=true:=by decide
  rw [if_pos rfl] at hlen ⊢
  have hl1:=hkn 1 (.inl ⟨rfl,.inr (.inr (.inl rfl))⟩)
  obtain ⟨a,ha⟩:∃ a,t.kids=[a]:=by
   match hl:t.kids,hl1 with
   | [a],_=>exact ⟨a,rfl⟩
  have h0:=hone 0 a (by rw [ha];rfl)
  rw [ha] at hlen ⊢
  rw [ha] at h0
  simp only [List.map_cons,List.map_nil,List.getD_cons_zero,List.length_append,List.length_cons,List.length_nil] at hlen ⊢
  generalize tx a=x at *
  generalize tTs [a]=rows at *
  refine GC.enter Tryz.func152 Tryz.ntmps152 rfl (by simp only [gframe,grep,Nat.reduceSub];rfl) ?_
  refine w_grunf ?_
  refine GL.wk (Wk.freeze (i:=0) rfl rfl rfl (Nat.zero_le _)) ?_
  refine GL.wk (Wk.freeze (i:=1) rfl rfl rfl (Nat.zero_le _)) ?_
  refine GN (by simp only [frzF,frzG];rfl) ?_
  refine w_grun ?_
  refine w_gcallv [] (h0) ?_
  refine w_grun ?_
  refine w_gret ?_
  exact ⟨rfl,rfl⟩
 rw [if_neg h11] at hlen ⊢
 have g11:(kd==11)=false:=by simpa using h11
 by_cases h12:kd=12
 ·subst h12
  have f13:((12:Int)==13)=false:=by decide
  have f7:((12:Int)==7)=false:=by decide
  have f8:((12:Int)==8)=false:=by decide
  have f9:((12:Int)==9)=false:=by decide
  have f10:((12:Int)==10)=false:=by decide
  have f11:((12:Int)==11)=false:=by decide
  have f12:((12:Int)==12)=true:=by decide
  rw [if_pos rfl] at hlen ⊢
  have hl1:=hkn 1 (.inl ⟨rfl,.inr (.inr (.inr rfl))⟩)
  obtain ⟨a,ha⟩:∃ a,t.kids=[a]:=by
   match hl:t.kids,hl1 with
   | [a],_=>exact ⟨a,rfl⟩
  have h0:=hone 0 a (by rw [ha];rfl)
  rw [ha] at hlen ⊢
  rw [ha] at h0
  simp only [List.map_cons,List.map_nil,List.getD_cons_zero,List.length_append,List.length_cons,List.length_nil] at hlen ⊢
  generalize tx a=x at *
  generalize tTs [a]=rows at *
  refine GC.enter Tryz.func152 Tryz.ntmps152 rfl (by simp only [gframe,grep,Nat.reduceSub];rfl) ?_
  refine w_grunf ?_
  refine GL.wk (Wk.freeze (i:=0) rfl rfl rfl (Nat.zero_le _)) ?_
  refine GL.wk (Wk.freeze (i:=1) rfl rfl rfl (Nat.zero_le _)) ?_
  refine GN (by simp only [frzF,frzG];rfl) ?_
  refine w_grun ?_
  refine w_gcallv [] (h0) ?_
  refine w_grun ?_
  refine w_gret ?_
  exact ⟨rfl,rfl⟩
 rw [if_neg h12] at hlen ⊢
 have g12:(kd==12)=false:=by simpa using h12
 clear hblk hone ih
 generalize tx t=x at *
 refine GC.enter Tryz.func152 Tryz.ntmps152 rfl (by simp only [gframe,grep,Nat.reduceSub];rfl) ?_
 refine w_grunf ?_
 refine GL.wk (Wk.freeze (i:=0) rfl rfl rfl (Nat.zero_le _)) ?_
 refine GL.wk (Wk.freeze (i:=1) rfl rfl rfl (Nat.zero_le _)) ?_
 refine GN (by simp only [frzF,frzG];rfl) ?_
 refine w_grun ?_
 refine w_gcallp [] (hown) ?_
 refine w_grun ?_
 refine w_gret ?_
 exact ⟨rfl,rfl⟩
end Go.Xg
namespace Go.Xg
open Go.RowKit Go.Xw Go.Proofs
open Go.Xp (Tok Nd T Ar levels digs joinC szT szL)
open Go.Sp (Src)
open Go.Im
attribute [local irreducible] GW GL GO YG GC GA gthn ginb
theorem layout_i (ex bk:FuncId) [he:Fun Tryz.prog ex] [hb:Fun Tryz.prog bk] (tx:T→Str) (inl:List Str→Nat→Str) (W:Wr ex bk tx inl) (p:Src) (trees:List T) (hlen:(layT tx inl p trees).length≤1099511627776) (hft:p.fns.length=trees.length)
  (hg:p.globals.length≤1099511627776) (ha:p.arrays.length≤1099511627776) (hf:p.fns.length≤1099511627776) (har:∀ a∈p.arrays,-9223372036854775808≤a.size∧a.size≤9223372036854775807) (hps:∀ f∈p.fns,f.params.length≤1099511627776)
  (ht:∀ t∈trees,kOk t=true∧numT t∧wtI t≤1099511627776∧szT t+1≤1099511627776) :
  GF Tryz.prog 63 [.agg (encSrc p),.sl 1 (tTs trees),.v (fnv ex),.v (fnv bk)] [] (.v (sv (layT tx inl p trees))) []:=by
 have hmg:(p.globals.map fun s=>[GV.v (sv s)]).length=p.globals.length:=by simp
 have hma:(p.arrays.map encAr).length=p.arrays.length:=by simp
 have hmf:(p.fns.map encFn).length=p.fns.length:=by simp
 have l2:=catF_ge (f1 tx inl) (p.fns.zip trees) (catF a1 (catF g1 [] p.globals) p.arrays)
 have l1:=catF_ge a1 p.arrays (catF g1 [] p.globals)
 unfold layT at hlen ⊢
 refine GC.enter Tryz.func63 Tryz.ntmps63 rfl (by simp only [gframe,grep,Nat.reduceSub];rfl) ?_
 refine w_grun ?_
 refine GW.wk (Wk.nilV (t:=9) (a:=none) (c:=0) 5 1 rfl) ?_
 refine GW.range (p.globals.map fun s=>[GV.v (sv s)]).length (fun k fr Γ=>∃ acc m rows,fr=[.any,.sl 1 (tTs trees),.v (fnv ex),.v (fnv bk),.loc 0 0,.any,.any,.any,.any,.vec 1 m,.any,.any,.any,.any,.any,.any,.any,.any,strs p.globals,.v (ii ((p.globals.map fun s=>[GV.v (sv s)]).length:Int)),.v (ii (k:Nat)),.any,.any,.any,.any,.any,.any,.any,.any,.any,.any,.any,.any,.any,.any,.any,.any,.any,.any,.any,.any,.any,.any,.any,.any,.any,.any,.any,.any,.any,.any,.any,.any,.any,.any,.any,.any,.any,.any,.any,.any,.any,.any,.any,.any,.any,.any,.any,.any,.any,.any,.any,.any,.any,.any,.any,.any,.any,.any,.any,.any,.any]∧Γ=[.box 28 (encSrc p),.vec 5 1 0 rows]∧rows.length=m∧rows=brows acc∧acc=catF g1 [] (p.globals.take k)) ?_ (by omega) ?_ ?_ ?_
 ·exact ⟨_,_,Wk.frm w_wkf,[],0,[],rfl,rfl,rfl,rfl,rfl⟩
 ·rintro k _ _ ⟨acc,m,rows,rfl,rfl,_⟩;exact ⟨rfl,rfl,rfl⟩
 ·rintro k _ _ hlt ⟨acc,m,rows,rfl,rfl,hm,hrow,hacc⟩
  rw [hmg] at hlt
  have hki:p.globals[k]?=some p.globals[k]:=by simp [hlt]
  have hkr:(p.globals.map fun s=>[GV.v (sv s)])[k]?=some [.v (sv p.globals[k])]:=by rw [List.getElem?_map,hki];rfl
  have hnext:catF g1 [] (p.globals.take (k+1))=acc++g1 p.globals[k]:=by rw [List.take_add_one,hki,hacc];exact catF_snoc g1 _ _ _
  have hle:=catF_take g1 p.globals (k+1) []
  rw [hnext,List.length_append] at hle
  have hmr:rows.length=acc.length:=by rw [hrow];simp [brows]
  generalize p.globals[k]=z at *
  have hz:(g1 z).length=z.length+6:=by unfold g1;simp
  refine w_grun ?_
  refine GL.appS (str:=g1 z) rfl rfl rfl (by first | rfl | assumption) rfl (by omega) ?_
  refine w_gnmb ?_
  refine w_grun ?_
  exact ⟨rfl,rfl,_,_,Wk.frm w_wkf,acc++g1 z,_,_,rfl,rfl,by rw [List.length_append,hm];simp [brows],by rw [hrow];exact (brows_app acc (g1 z)).symm,hnext.symm⟩
 ·rintro _ _ ⟨acc,m,rows,rfl,rfl,hm,hrow,hacc⟩
  rw [hmg,List.take_length] at hacc
  rw [←hacc] at hlen l1 l2 ⊢
  refine gthn_n ?_
  refine w_grun ?_
  refine GW.range (p.arrays.map encAr).length (fun k fr Γ=>∃ acc2 m rows,fr=[.any,.sl 1 (tTs trees),.v (fnv ex),.v (fnv bk),.loc 0 0,.any,.any,.any,.any,.vec 1 m,.any,.any,.any,.any,.any,.any,.any,.any,.any,.any,.any,.any,.any,.any,.any,.any,.any,.any,.any,.any,.any,.sl 2 (p.arrays.map encAr),.v (ii ((p.arrays.map encAr).length:Int)),.v (ii (k:Nat)),.any,.any,.any,.any,.any,.any,.any,.any,.any,.any,.any,.any,.any,.any,.any,.any,.any,.any,.any,.any,.any,.any,.any,.any,.any,.any,.any,.any,.any,.any,.any,.any,.any,.any,.any,.any,.any,.any,.any,.any,.any,.any,.any,.any,.any,.any,.any,.any]∧Γ=[.box 28 (encSrc p),.vec 5 1 0 rows]∧rows.length=m∧rows=brows acc2∧acc2=catF a1 acc (p.arrays.take k)) ?_ (by omega) ?_ ?_ ?_
  ·exact ⟨_,_,Wk.frm w_wkf,acc,m,rows,rfl,rfl,hm,hrow,rfl⟩
  ·rintro k _ _ ⟨acc2,m,rows,rfl,rfl,_⟩;exact ⟨rfl,rfl,rfl⟩
  ·clear hm hrow
   rintro k _ _ hlt ⟨acc2,m,rows,rfl,rfl,hm,hrow,hacc2⟩
   rw [hma] at hlt
   have hki:p.arrays[k]?=some p.arrays[k]:=by simp [hlt]
   have hkr:(p.arrays.map encAr)[k]?=some (encAr p.arrays[k]):=by rw [List.getElem?_map,hki];rfl
   have hnext:catF a1 acc (p.arrays.take (k+1))=acc2++a1 p.arrays[k]:=by rw [List.take_add_one,hki,hacc2];exact catF_snoc a1 _ _ _
   have hle:=catF_take a1 p.arrays (k+1) acc
   rw [hnext,List.length_append] at hle
   have hmr:rows.length=acc2.length:=by rw [hrow];simp [brows]
   have hrange:=har p.arrays[k] (List.getElem_mem hlt)
   generalize p.arrays[k]=z at *
   have hit:=Itoa_g z.size hrange.1 hrange.2
   have hil:=itoaI_len hrange
   have hz:(a1 z).length=z.name.length+(itoaI z.size).length+8:=by unfold a1;simp;omega
   unfold encAr at hkr
   refine w_grun ?_
   refine GW.draw (.q 0 (.q 1 (.q 2 (.q 3 (.q 4 (.q 5 (.q 6 (.a 7 (.q 8 (.q 9 (.a 10 (.q 11 .nil)))))))))))) (by kernel_rfl) (by kernel_rfl) ?_
   refine w_gorun ?_
   refine w_gocall [] (hit) ?_
   refine w_gorun ?_
   refine OA rfl rfl (GL.appS (str:=a1 z) rfl rfl rfl (by first | rfl | assumption) rfl (by omega) (GL.nil (gthn_n (OAfter.mk (by repeat (first | exact StayL.n | (apply StayL.w;(· decide +kernel)) | (apply StayL.y;(· first | (apply YQ.t;(· exact rfl);(· exact rfl);(· (first | (apply K.ld;first | exact YG.ldL rfl rfl (by first | rfl | assumption) | exact YG.ldLN rfl rfl rfl rfl | exact YG.ldV rfl rfl (by first | rfl | assumption) (by first | rfl | assumption) (by first | rfl | assumption) | exact YG.ldH rfl rfl (by first | rfl | assumption) (by first | rfl | assumption) (by first | rfl | assumption)) | (apply K.idx;first | exact YG.idxV rfl rfl rfl (by first | rfl | assumption) (by omega) | exact YG.idxH 0 rfl rfl rfl (by first | omega | assumption | (simp only [List.length_append,List.length_cons,List.length_nil];omega)) | exact YG.idxH 1 rfl rfl rfl (by first | omega | assumption | (simp only [List.length_append,List.length_cons,List.length_nil];omega)) | exact YG.idxH 2 rfl rfl rfl (by first | omega | assumption | (simp only [List.length_append,List.length_cons,List.length_nil];omega)) | exact YG.idxH 3 rfl rfl rfl (by first | omega | assumption | (simp only [List.length_append,List.length_cons,List.length_nil];omega)) | exact YG.idxH 4 rfl rfl rfl (by first | omega | assumption | (simp only [List.length_append,List.length_cons,List.length_nil];omega)) | exact YG.idxH 5 rfl rfl rfl (by first | omega | assumption | (simp only [List.length_append,List.length_cons,List.length_nil];omega)) | exact YG.idxH 6 rfl rfl rfl (by first | omega | assumption | (simp only [List.length_append,List.length_cons,List.length_nil];omega))) | (apply K.fld;first | exact YG.fldV rfl rfl (by first | rfl | assumption) | exact YG.fldH rfl rfl (by first | rfl | assumption)) | exact YG.sldata 1 rfl rfl (by first | rfl | assumption) (by first | rfl | assumption) | exact YG.mv | exact YG.asg | (apply K.bin;first | exact YG.go rfl | exact YG.add1 rfl rfl (by omega) | exact YG.eqNil rfl rfl | exact YG.nePtr rfl rfl | exact YG.eqS rfl rfl | exact YG.neS rfl rfl | exact YG.cat rfl rfl (by omega) | exact YG.cat rfl rfl (by simp only [List.length_append,List.length_cons,List.length_nil];omega) | exact YG.addN rfl rfl (by omega) | exact YG.add rfl rfl (by omega) | exact YG.sub rfl rfl (by omega) | exact YG.mul rfl rfl (by omega) | exact YG.subU rfl rfl (by omega) | exact YG.quo rfl rfl (by omega) | exact YG.rem rfl rfl (by omega) | exact YG.low32 rfl rfl) | (apply K.fld;first | exact YG.fldL rfl | exact YG.fldB rfl) | (apply K.ld;first | exact YG.ldB rfl (by first | rfl | assumption) | exact YG.ldBN rfl rfl rfl) | (apply K.len;first | exact YG.lenSl rfl | exact YG.lenS rfl | exact YG.lenN rfl | exact YG.lenV rfl | exact YG.lenA rfl) | (apply K.nck;first | exact YG.nilL rfl | exact YG.nilB rfl) | (apply K.pick;first | exact YG.pkT rfl (by first | rfl | assumption) | exact YG.pkF rfl (by first | rfl | assumption)) | (apply K.idx;first | exact YG.idxSl rfl rfl (by assumption) | exact YG.idxSlC rfl rfl (by assumption) rfl | exact YG.idxSlC rfl rfl (by assumption) (by omega) | exact YG.idxA rfl rfl (by omega)) | exact YG.ext rfl rfl | exact YG.go rfl | (apply K.slc;first | exact YG.sub2 rfl rfl rfl (by omega) | exact YG.sub1 rfl rfl (by omega) | exact YG.sub0 rfl rfl (by omega) | exact YG.subSlC 1 rfl rfl rfl (by first | rfl | assumption)) | exact YG.idxS rfl rfl (by assumption) | exact YG.idxSC rfl rfl (by assumption) rfl | (apply K.mkfn;first | exact YG.mkfn0 | exact YG.mkfn) | exact YG.build rfl | exact YG.neg rfl (by omega) | exact YG.fldG rfl rfl | exact YG.cvt rfl (by first | rfl | exact IntWalk.i64_in _ (by omega) | exact IntWalk.u8_in _ (by omega) | assumption) | exact YG.str rfl (by first | rfl | assumption)))) | (apply YQ.t;(· exact rfl);(· apply gG_t;(· exact rfl);(· first | exact rfl | assumption));(· (first | (apply K.ld;first | exact YG.ldL rfl rfl (by first | rfl | assumption) | exact YG.ldLN rfl rfl rfl rfl | exact YG.ldV rfl rfl (by first | rfl | assumption) (by first | rfl | assumption) (by first | rfl | assumption) | exact YG.ldH rfl rfl (by first | rfl | assumption) (by first | rfl | assumption) (by first | rfl | assumption)) | (apply K.idx;first | exact YG.idxV rfl rfl rfl (by first | rfl | assumption) (by omega) | exact YG.idxH 0 rfl rfl rfl (by first | omega | assumption | (simp only [List.length_append,List.length_cons,List.length_nil];omega)) | exact YG.idxH 1 rfl rfl rfl (by first | omega | assumption | (simp only [List.length_append,List.length_cons,List.length_nil];omega)) | exact YG.idxH 2 rfl rfl rfl (by first | omega | assumption | (simp only [List.length_append,List.length_cons,List.length_nil];omega)) | exact YG.idxH 3 rfl rfl rfl (by first | omega | assumption | (simp only [List.length_append,List.length_cons,List.length_nil];omega)) | exact YG.idxH 4 rfl rfl rfl (by first | omega | assumption | (simp only [List.length_append,List.length_cons,List.length_nil];omega)) | exact YG.idxH 5 rfl rfl rfl (by first | omega | assumption | (simp only [List.length_append,List.length_cons,List.length_nil];omega)) | exact YG.idxH 6 rfl rfl rfl (by first | omega | assumption | (simp only [List.length_append,List.length_cons,List.length_nil];omega))) | (apply K.fld;first | exact YG.fldV rfl rfl (by first | rfl | assumption) | exact YG.fldH rfl rfl (by first | rfl | assumption)) | exact YG.sldata 1 rfl rfl (by first | rfl | assumption) (by first | rfl | assumption) | exact YG.mv | exact YG.asg | (apply K.bin;first | exact YG.go rfl | exact YG.add1 rfl rfl (by omega) | exact YG.eqNil rfl rfl | exact YG.nePtr rfl rfl | exact YG.eqS rfl rfl | exact YG.neS rfl rfl | exact YG.cat rfl rfl (by omega) | exact YG.cat rfl rfl (by simp only [List.length_append,List.length_cons,List.length_nil];omega) | exact YG.addN rfl rfl (by omega) | exact YG.add rfl rfl (by omega) | exact YG.sub rfl rfl (by omega) | exact YG.mul rfl rfl (by omega) | exact YG.subU rfl rfl (by omega) | exact YG.quo rfl rfl (by omega) | exact YG.rem rfl rfl (by omega) | exact YG.low32 rfl rfl) | (apply K.fld;first | exact YG.fldL rfl | exact YG.fldB rfl) | (apply K.ld;first | exact YG.ldB rfl (by first | rfl | assumption) | exact YG.ldBN rfl rfl rfl) | (apply K.len;first | exact YG.lenSl rfl | exact YG.lenS rfl | exact YG.lenN rfl | exact YG.lenV rfl | exact YG.lenA rfl) | (apply K.nck;first | exact YG.nilL rfl | exact YG.nilB rfl) | (apply K.pick;first | exact YG.pkT rfl (by first | rfl | assumption) | exact YG.pkF rfl (by first | rfl | assumption)) | (apply K.idx;first | exact YG.idxSl rfl rfl (by assumption) | exact YG.idxSlC rfl rfl (by assumption) rfl | exact YG.idxSlC rfl rfl (by assumption) (by omega) | exact YG.idxA rfl rfl (by omega)) | exact YG.ext rfl rfl | exact YG.go rfl | (apply K.slc;first | exact YG.sub2 rfl rfl rfl (by omega) | exact YG.sub1 rfl rfl (by omega) | exact YG.sub0 rfl rfl (by omega) | exact YG.subSlC 1 rfl rfl rfl (by first | rfl | assumption)) | exact YG.idxS rfl rfl (by assumption) | exact YG.idxSC rfl rfl (by assumption) rfl | (apply K.mkfn;first | exact YG.mkfn0 | exact YG.mkfn) | exact YG.build rfl | exact YG.neg rfl (by omega) | exact YG.fldG rfl rfl | exact YG.cvt rfl (by first | rfl | exact IntWalk.i64_in _ (by omega) | exact IntWalk.u8_in _ (by omega) | assumption) | exact YG.str rfl (by first | rfl | assumption)))) | (apply YQ.f;(· exact rfl);(· apply gG_f;(· exact rfl);(· first | exact rfl | assumption))))))) ?_))))
   refine w_gnob ?_
   refine w_gorun ?_
   refine w_grun ?_
   exact ⟨rfl,rfl,_,_,(Wk.cut (n:=2) (Nat.zero_le _) rfl).trans (Wk.frm w_wkf),acc2++a1 z,_,_,rfl,rfl,by rw [List.length_append,hm];simp [brows],by rw [hrow];exact (brows_app acc2 (a1 z)).symm,hnext.symm⟩
  ·clear hm hrow
   rintro _ _ ⟨acc2,m,rows,rfl,rfl,hm,hrow,hacc2⟩
   rw [hma,List.take_length] at hacc2
   rw [←hacc2] at hlen l2 ⊢
   have hpar:∀ (k:Nat) (f:Go.Sp.Fn),p.fns[k]?=some f→f.params.length≤1099511627776:=fun k f h=>hps f (List.mem_of_getElem? h)
   refine gthn_n ?_
   refine w_grun ?_
   refine GW.range (p.fns.map encFn).length (fun k fr Γ=>∃ acc3 m rows,fr=[.any,.sl 1 (tTs trees),.any,.any,.any,.any,.any,.any,.any,.vec 1 m,.any,.any,.any,.any,.loc 2 0,.any,.any,.any,.any,.any,.any,.any,.any,.any,.any,.any,.any,.any,.any,.any,.any,.any,.any,.any,.any,.any,.any,.any,.any,.any,.any,.any,.any,.any,.any,.any,.any,.any,.any,.any,.any,.any,.any,.sl 3 (p.fns.map encFn),.v (ii ((p.fns.map encFn).length:Int)),.v (ii (k:Nat)),.any,.any,.any,.any,.any,.any,.any,.any,.any,.any,.any,.any,.any,.any,.any,.any,.any,.any,.any,.any,.any,.any,.any,.any,.any,.any]∧Γ=[.box 28 (encSrc p),.vec 5 1 0 rows,.box 136 [.v (fnv ex),.v (fnv bk)]]∧rows.length=m∧rows=brows acc3∧acc3=catF (f1 tx inl) acc2 ((p.fns.zip trees).take k)) ?_ (by omega) ?_ ?_ ?_
   ·exact ⟨_,_,Wk.frm w_wkf,acc2,m,rows,rfl,rfl,hm,hrow,rfl⟩
   ·rintro k _ _ ⟨acc3,m,rows,rfl,rfl,_⟩;exact ⟨rfl,rfl,rfl⟩
   ·clear hm hrow
    rintro k _ _ hlt ⟨acc3,m,rows,rfl,rfl,hm,hrow,hacc3⟩
    rw [hmf] at hlt
    have hlt2:k < trees.length:=by omega
    have hki:p.fns[k]?=some p.fns[k]:=by simp [hlt]
    have hkt:trees[k]?=some trees[k]:=by simp [hlt2]
    have hkr:(p.fns.map encFn)[k]?=some (encFn p.fns[k]):=by rw [List.getElem?_map,hki];rfl
    have hkt2:=row_tT hkt
    have hkz:(p.fns.zip trees)[k]?=some (p.fns[k],trees[k]):=by rw [List.getElem?_zip_eq_some];exact ⟨hki,hkt⟩
    have hnext:catF (f1 tx inl) acc2 ((p.fns.zip trees).take (k+1))=acc3++f1 tx inl (p.fns[k],trees[k]):=by rw [List.take_add_one,hkz,hacc3];exact catF_snoc (f1 tx inl) _ _ _
    have hle:=catF_take (f1 tx inl) (p.fns.zip trees) (k+1) acc2
    rw [hnext,List.length_append] at hle
    have hmr:rows.length=acc3.length:=by rw [hrow];simp [brows]
    obtain ⟨q1,q2,q3,q4⟩:=ht trees[k] (List.getElem_mem hlt2)
    have hpk:=hpar k _ hki
    generalize p.fns[k]=f at *
    generalize trees[k]=t at *
    have hz:(f1 tx inl (f,t)).length=f.name.length+(joinC f.params).length+(blT tx inl 0 t).length+9:=by unfold f1;simp;omega
    have hJ:=Join_g f.params (by omega) hpk
    have hszm:∀ (l:List T) (a:T),a∈l→szT a≤szL l:=by
     intro l
     induction l with
     | nil=>intro a h;cases h
     | cons b l ih2 =>
      intro a h
      rw [szL]
      rcases List.mem_cons.1 h with rfl | h
      ·omega
      ·have:=ih2 a h;omega
    have hB:=blockText_i ex bk tx inl W t 0 (by omega) (by have:=Go.Xp.len_le_szL t.kids;have:=Go.Xp.szT_eq t;omega) (by omega) fun a ha2 hla=>by
     have h1:=hszm _ a ha2
     have h2:=Go.Xp.szT_eq t
     have h3:=wtIs_mem ha2
     have h4:=wtI_eq t
     rw [kOk_eq,Bool.and_eq_true,kOks_all,List.all_eq_true] at q1
     rw [numT_eq] at q2
     exact statement_i ex bk tx inl W _ a (Nat.le_refl _) (q1.2 a ha2) (numTs_mem q2.2 ha2) (by omega) (0+1) (by omega) hla
    unfold encFn at hkr
    refine w_grun ?_
    refine GW.draw (.q 0 (.q 1 (.q 2 (.q 3 (.q 4 (.q 5 (.q 6 (.q 10 (.q 11 (.q 12 (.q 13 (.q 14 (.a 7 (.q 8 (.q 9 (.a 15 (.q 16 (.q 17 (.a 18 (.q 19 .nil)))))))))))))))))))) (by kernel_rfl) (by kernel_rfl) ?_
    refine w_gorun ?_
    refine w_gocall [] (hJ) ?_
    refine w_gorun ?_
    refine w_gocall [] (hB) ?_
    refine w_gorun ?_
    refine OA rfl rfl (GL.appS (str:=f1 tx inl (f,t)) rfl rfl rfl (by first | rfl | assumption) rfl (by omega) (GL.nil (gthn_n (OAfter.mk (by repeat (first | exact StayL.n | (apply StayL.w;(· decide +kernel)) | (apply StayL.y;(· first | (apply YQ.t;(· exact rfl);(· exact rfl);(· (first | (apply K.ld;first | exact YG.ldL rfl rfl (by first | rfl | assumption) | exact YG.ldLN rfl rfl rfl rfl | exact YG.ldV rfl rfl (by first | rfl | assumption) (by first | rfl | assumption) (by first | rfl | assumption) | exact YG.ldH rfl rfl (by first | rfl | assumption) (by first | rfl | assumption) (by first | rfl | assumption)) | (apply K.idx;first | exact YG.idxV rfl rfl rfl (by first | rfl | assumption) (by omega) | exact YG.idxH 0 rfl rfl rfl (by first | omega | assumption | (simp only [List.length_append,List.length_cons,List.length_nil];omega)) | exact YG.idxH 1 rfl rfl rfl (by first | omega | assumption | (simp only [List.length_append,List.length_cons,List.length_nil];omega)) | exact YG.idxH 2 rfl rfl rfl (by first | omega | assumption | (simp only [List.length_append,List.length_cons,List.length_nil];omega)) | exact YG.idxH 3 rfl rfl rfl (by first | omega | assumption | (simp only [List.length_append,List.length_cons,List.length_nil];omega)) | exact YG.idxH 4 rfl rfl rfl (by first | omega | assumption | (simp only [List.length_append,List.length_cons,List.length_nil];omega)) | exact YG.idxH 5 rfl rfl rfl (by first | omega | assumption | (simp only [List.length_append,List.length_cons,List.length_nil];omega)) | exact YG.idxH 6 rfl rfl rfl (by first | omega | assumption | (simp only [List.length_append,List.length_cons,List.length_nil];omega))) | (apply K.fld;first | exact YG.fldV rfl rfl (by first | rfl | assumption) | exact YG.fldH rfl rfl (by first | rfl | assumption)) | exact YG.sldata 1 rfl rfl (by first | rfl | assumption) (by first | rfl | assumption) | exact YG.mv | exact YG.asg | (apply K.bin;first | exact YG.go rfl | exact YG.add1 rfl rfl (by omega) | exact YG.eqNil rfl rfl | exact YG.nePtr rfl rfl | exact YG.eqS rfl rfl | exact YG.neS rfl rfl | exact YG.cat rfl rfl (by omega) | exact YG.cat rfl rfl (by simp only [List.length_append,List.length_cons,List.length_nil];omega) | exact YG.addN rfl rfl (by omega) | exact YG.add rfl rfl (by omega) | exact YG.sub rfl rfl (by omega) | exact YG.mul rfl rfl (by omega) | exact YG.subU rfl rfl (by omega) | exact YG.quo rfl rfl (by omega) | exact YG.rem rfl rfl (by omega) | exact YG.low32 rfl rfl) | (apply K.fld;first | exact YG.fldL rfl | exact YG.fldB rfl) | (apply K.ld;first | exact YG.ldB rfl (by first | rfl | assumption) | exact YG.ldBN rfl rfl rfl) | (apply K.len;first | exact YG.lenSl rfl | exact YG.lenS rfl | exact YG.lenN rfl | exact YG.lenV rfl | exact YG.lenA rfl) | (apply K.nck;first | exact YG.nilL rfl | exact YG.nilB rfl) | (apply K.pick;first | exact YG.pkT rfl (by first | rfl | assumption) | exact YG.pkF rfl (by first | rfl | assumption)) | (apply K.idx;first | exact YG.idxSl rfl rfl (by assumption) | exact YG.idxSlC rfl rfl (by assumption) rfl | exact YG.idxSlC rfl rfl (by assumption) (by omega) | exact YG.idxA rfl rfl (by omega)) | exact YG.ext rfl rfl | exact YG.go rfl | (apply K.slc;first | exact YG.sub2 rfl rfl rfl (by omega) | exact YG.sub1 rfl rfl (by omega) | exact YG.sub0 rfl rfl (by omega) | exact YG.subSlC 1 rfl rfl rfl (by first | rfl | assumption)) | exact YG.idxS rfl rfl (by assumption) | exact YG.idxSC rfl rfl (by assumption) rfl | (apply K.mkfn;first | exact YG.mkfn0 | exact YG.mkfn) | exact YG.build rfl | exact YG.neg rfl (by omega) | exact YG.fldG rfl rfl | exact YG.cvt rfl (by first | rfl | exact IntWalk.i64_in _ (by omega) | exact IntWalk.u8_in _ (by omega) | assumption) | exact YG.str rfl (by first | rfl | assumption)))) | (apply YQ.t;(· exact rfl);(· apply gG_t;(· exact rfl);(· first | exact rfl | assumption));(· (first | (apply K.ld;first | exact YG.ldL rfl rfl (by first | rfl | assumption) | exact YG.ldLN rfl rfl rfl rfl | exact YG.ldV rfl rfl (by first | rfl | assumption) (by first | rfl | assumption) (by first | rfl | assumption) | exact YG.ldH rfl rfl (by first | rfl | assumption) (by first | rfl | assumption) (by first | rfl | assumption)) | (apply K.idx;first | exact YG.idxV rfl rfl rfl (by first | rfl | assumption) (by omega) | exact YG.idxH 0 rfl rfl rfl (by first | omega | assumption | (simp only [List.length_append,List.length_cons,List.length_nil];omega)) | exact YG.idxH 1 rfl rfl rfl (by first | omega | assumption | (simp only [List.length_append,List.length_cons,List.length_nil];omega)) | exact YG.idxH 2 rfl rfl rfl (by first | omega | assumption | (simp only [List.length_append,List.length_cons,List.length_nil];omega)) | exact YG.idxH 3 rfl rfl rfl (by first | omega | assumption | (simp only [List.length_append,List.length_cons,List.length_nil];omega)) | exact YG.idxH 4 rfl rfl rfl (by first | omega | assumption | (simp only [List.length_append,List.length_cons,List.length_nil];omega)) | exact YG.idxH 5 rfl rfl rfl (by first | omega | assumption | (simp only [List.length_append,List.length_cons,List.length_nil];omega)) | exact YG.idxH 6 rfl rfl rfl (by first | omega | assumption | (simp only [List.length_append,List.length_cons,List.length_nil];omega))) | (apply K.fld;first | exact YG.fldV rfl rfl (by first | rfl | assumption) | exact YG.fldH rfl rfl (by first | rfl | assumption)) | exact YG.sldata 1 rfl rfl (by first | rfl | assumption) (by first | rfl | assumption) | exact YG.mv | exact YG.asg | (apply K.bin;first | exact YG.go rfl | exact YG.add1 rfl rfl (by omega) | exact YG.eqNil rfl rfl | exact YG.nePtr rfl rfl | exact YG.eqS rfl rfl | exact YG.neS rfl rfl | exact YG.cat rfl rfl (by omega) | exact YG.cat rfl rfl (by simp only [List.length_append,List.length_cons,List.length_nil];omega) | exact YG.addN rfl rfl (by omega) | exact YG.add rfl rfl (by omega) | exact YG.sub rfl rfl (by omega) | exact YG.mul rfl rfl (by omega) | exact YG.subU rfl rfl (by omega) | exact YG.quo rfl rfl (by omega) | exact YG.rem rfl rfl (by omega) | exact YG.low32 rfl rfl) | (apply K.fld;first | exact YG.fldL rfl | exact YG.fldB rfl) | (apply K.ld;first | exact YG.ldB rfl (by first | rfl | assumption) | exact YG.ldBN rfl rfl rfl) | (apply K.len;first | exact YG.lenSl rfl | exact YG.lenS rfl | exact YG.lenN rfl | exact YG.lenV rfl | exact YG.lenA rfl) | (apply K.nck;first | exact YG.nilL rfl | exact YG.nilB rfl) | (apply K.pick;first | exact YG.pkT rfl (by first | rfl | assumption) | exact YG.pkF rfl (by first | rfl | assumption)) | (apply K.idx;first | exact YG.idxSl rfl rfl (by assumption) | exact YG.idxSlC rfl rfl (by assumption) rfl | exact YG.idxSlC rfl rfl (by assumption) (by omega) | exact YG.idxA rfl rfl (by omega)) | exact YG.ext rfl rfl | exact YG.go rfl | (apply K.slc;first | exact YG.sub2 rfl rfl rfl (by omega) | exact YG.sub1 rfl rfl (by omega) | exact YG.sub0 rfl rfl (by omega) | exact YG.subSlC 1 rfl rfl rfl (by first | rfl | assumption)) | exact YG.idxS rfl rfl (by assumption) | exact YG.idxSC rfl rfl (by assumption) rfl | (apply K.mkfn;first | exact YG.mkfn0 | exact YG.mkfn) | exact YG.build rfl | exact YG.neg rfl (by omega) | exact YG.fldG rfl rfl | exact YG.cvt rfl (by first | rfl | exact IntWalk.i64_in _ (by omega) | exact IntWalk.u8_in _ (by omega) | assumption) | exact YG.str rfl (by first | rfl | assumption)))) | (apply YQ.f;(· exact rfl);(· apply gG_f;(· exact rfl);(· first | exact rfl | assumption))))))) ?_))))
    refine w_gnob ?_
    refine w_gorun ?_
    refine w_grun ?_
    exact ⟨rfl,rfl,_,_,(Wk.cut (n:=3) (Nat.zero_le _) rfl).trans (Wk.frm w_wkf),acc3++f1 tx inl (f,t),_,_,rfl,rfl,by rw [List.length_append,hm];simp [brows],by rw [hrow];exact (brows_app acc3 _).symm,hnext.symm⟩
   ·clear hm hrow
    rintro _ _ ⟨acc3,m,rows,rfl,rfl,hm,hrow,hacc3⟩
    rw [hmf,show (p.fns.zip trees).take p.fns.length=p.fns.zip trees from List.take_of_length_le (by simp;omega)] at hacc3
    rw [←hacc3] at hlen ⊢
    refine gthn_n ?_
    refine GW.wk (Wk.snap (t:=9) rfl rfl rfl hm) ?_
    have hrow':rows=acc3.map fun c=>[.v (.int .u8 (c.toNat:Int))]:=hrow
    refine w_grun ?_
    refine w_gret ?_
    exact ⟨rfl,rfl⟩
end Go.Xg
namespace Go.Xg
open Go.RowKit Go.Xw Go.Proofs
open Go.Im (eqL eqL_ne eqL_no eqTo eqTo_succ eqTo_end)
attribute [local irreducible] GW GL GO YG GC GA gthn ginb
theorem Equal_s (a b:List Str) (ha:a.length≤1099511627776) (hb:b.length≤1099511627776):GF Tryz.prog 78 [strs a,strs b] [] (.v (.bool (eqL (fun x y=>x==y) a b))) []:=by
 have hma:(a.map fun s=>[GV.v (sv s)]).length=a.length:=by simp
 have hmb:(b.map fun s=>[GV.v (sv s)]).length=b.length:=by simp
 by_cases hl:a.length=b.length
 ·have hd:(((a.map fun s=>[GV.v (sv s)]).length:Int) != ((b.map fun s=>[GV.v (sv s)]).length:Int))=false:=by rw [hma,hmb,hl];simp
  refine GC.enter Tryz.func78 Tryz.ntmps78 rfl (by simp only [gframe,grep,Nat.reduceSub];rfl) ?_
  refine w_grun ?_
  refine GW.range (a.map fun s=>[GV.v (sv s)]).length (fun k fr Γ=>fr=[strs a,strs b,.any,.any,.any,.any,.any,.any,.any,.any,.any,.any,.v (ii ((a.map fun s=>[GV.v (sv s)]).length:Int)),.v (ii (k:Nat)),.any,.any,.any,.any,.any,.any,.any,.any,.any,.any,.any,.any]∧Γ=[]∧eqTo (fun x y=>x==y) a b k) ?_ (by omega) ?_ ?_ ?_
  ·exact ⟨_,_,Wk.frm w_wkf,rfl,rfl,fun j x y h=>by omega⟩
  ·rintro k _ _ ⟨rfl,rfl,_⟩;exact ⟨rfl,rfl,rfl⟩
  ·rintro k _ _ hlt ⟨rfl,rfl,hto⟩
   rw [hma] at hlt
   have hka:a[k]?=some a[k]:=by simp [hlt]
   have hltb:k < b.length:=by omega
   have hkb:b[k]?=some b[k]:=by simp [hltb]
   have hra:(a.map fun s=>[GV.v (sv s)])[k]?=some [GV.v (sv a[k])]:=by rw [List.getElem?_map,hka];rfl
   have hrb:(b.map fun s=>[GV.v (sv s)])[k]?=some [GV.v (sv b[k])]:=by rw [List.getElem?_map,hkb];rfl
   generalize a[k]=x at *
   generalize b[k]=y at *
   cases hxy:(x==y) with
   | true =>
    have hn:(x != y)=false:=by simp only [bne,hxy];rfl
    have hn2:(!(x==y))=false:=by rw [hxy];rfl
    refine w_grun ?_
    refine GW.draw (.q 0 (.q 1 (.q 2 (.q 3 (.q 4 (.q 5 (.q 6 (.q 7 (.q 8 .nil))))))))) (by kernel_rfl) (by kernel_rfl) ?_
    refine w_gorun ?_
    refine w_grun ?_
    exact ⟨rfl,rfl,_,_,Wk.frm w_wkf,rfl,rfl,eqTo_succ hka hkb hto hxy⟩
   | false =>
    have hn:(x != y)=true:=by simp only [bne,hxy];rfl
    have hn2:(!(x==y))=true:=by rw [hxy];rfl
    rw [eqL_no hka hkb (p:=fun x y=>x==y) hxy]
    refine w_grun ?_
    refine GW.draw (.q 0 (.q 1 (.q 2 (.q 3 (.q 4 (.q 5 (.q 6 (.q 7 (.q 8 .nil))))))))) (by kernel_rfl) (by kernel_rfl) ?_
    refine w_gorun ?_
    refine w_grun ?_
    refine w_gret ?_
    exact ⟨rfl,rfl⟩
  ·rintro _ _ ⟨rfl,rfl,hto⟩
   rw [hma] at hto
   rw [eqTo_end hl hto]
   refine w_grun ?_
   refine w_gret ?_
   exact ⟨rfl,rfl⟩
 ·have hd:(((a.map fun s=>[GV.v (sv s)]).length:Int) != ((b.map fun s=>[GV.v (sv s)]).length:Int))=true:=by rw [hma,hmb];simpa using by omega
  rw [eqL_ne hl]
  refine GC.enter Tryz.func78 Tryz.ntmps78 rfl (by simp only [gframe,grep,Nat.reduceSub];rfl) ?_
  refine w_grun ?_
  refine w_gret ?_
  exact ⟨rfl,rfl⟩
theorem Equal_i (a b:List Int) (ha:a.length≤1099511627776) (hb:b.length≤1099511627776):GF Tryz.prog 125 [ints a,ints b] [] (.v (.bool (eqL (fun x y=>x==y) a b))) []:=by
 have hma:(a.map fun s=>[GV.v (ii s)]).length=a.length:=by simp
 have hmb:(b.map fun s=>[GV.v (ii s)]).length=b.length:=by simp
 by_cases hl:a.length=b.length
 ·have hd:(((a.map fun s=>[GV.v (ii s)]).length:Int) != ((b.map fun s=>[GV.v (ii s)]).length:Int))=false:=by rw [hma,hmb,hl];simp
  refine GC.enter Tryz.func125 Tryz.ntmps125 rfl (by simp only [gframe,grep,Nat.reduceSub];rfl) ?_
  refine w_grun ?_
  refine GW.range (a.map fun s=>[GV.v (ii s)]).length (fun k fr Γ=>fr=[ints a,ints b,.any,.any,.any,.any,.any,.any,.any,.any,.any,.any,.v (ii ((a.map fun s=>[GV.v (ii s)]).length:Int)),.v (ii (k:Nat)),.any,.any,.any,.any,.any,.any,.any,.any,.any,.any,.any,.any]∧Γ=[]∧eqTo (fun x y=>x==y) a b k) ?_ (by omega) ?_ ?_ ?_
  ·exact ⟨_,_,Wk.frm w_wkf,rfl,rfl,fun j x y h=>by omega⟩
  ·rintro k _ _ ⟨rfl,rfl,_⟩;exact ⟨rfl,rfl,rfl⟩
  ·rintro k _ _ hlt ⟨rfl,rfl,hto⟩
   rw [hma] at hlt
   have hka:a[k]?=some a[k]:=by simp [hlt]
   have hltb:k < b.length:=by omega
   have hkb:b[k]?=some b[k]:=by simp [hltb]
   have hra:(a.map fun s=>[GV.v (ii s)])[k]?=some [GV.v (ii a[k])]:=by rw [List.getElem?_map,hka];rfl
   have hrb:(b.map fun s=>[GV.v (ii s)])[k]?=some [GV.v (ii b[k])]:=by rw [List.getElem?_map,hkb];rfl
   generalize a[k]=x at *
   generalize b[k]=y at *
   cases hxy:(x==y) with
   | true =>
    have hn:(x != y)=false:=by simp only [bne,hxy];rfl
    have hn2:(!(x==y))=false:=by rw [hxy];rfl
    refine w_grun ?_
    refine GW.draw (.q 0 (.q 1 (.q 2 (.q 3 (.q 4 (.q 5 (.q 6 (.q 7 (.q 8 .nil))))))))) (by kernel_rfl) (by kernel_rfl) ?_
    refine w_gorun ?_
    refine w_grun ?_
    exact ⟨rfl,rfl,_,_,Wk.frm w_wkf,rfl,rfl,eqTo_succ hka hkb hto hxy⟩
   | false =>
    have hn:(x != y)=true:=by simp only [bne,hxy];rfl
    have hn2:(!(x==y))=true:=by rw [hxy];rfl
    rw [eqL_no hka hkb (p:=fun x y=>x==y) hxy]
    refine w_grun ?_
    refine GW.draw (.q 0 (.q 1 (.q 2 (.q 3 (.q 4 (.q 5 (.q 6 (.q 7 (.q 8 .nil))))))))) (by kernel_rfl) (by kernel_rfl) ?_
    refine w_gorun ?_
    refine w_grun ?_
    refine w_gret ?_
    exact ⟨rfl,rfl⟩
  ·rintro _ _ ⟨rfl,rfl,hto⟩
   rw [hma] at hto
   rw [eqTo_end hl hto]
   refine w_grun ?_
   refine w_gret ?_
   exact ⟨rfl,rfl⟩
 ·have hd:(((a.map fun s=>[GV.v (ii s)]).length:Int) != ((b.map fun s=>[GV.v (ii s)]).length:Int))=true:=by rw [hma,hmb];simpa using by omega
  rw [eqL_ne hl]
  refine GC.enter Tryz.func125 Tryz.ntmps125 rfl (by simp only [gframe,grep,Nat.reduceSub];rfl) ?_
  refine w_grun ?_
  refine w_gret ?_
  exact ⟨rfl,rfl⟩
end Go.Xg
namespace Go.Xg
open Go.RowKit Go.Xw Go.Proofs
open Go.Xp (Nd)
open Go.Im (sameF sameN eqL eqL_ne eqL_no eqTo eqTo_succ eqTo_end)
attribute [local irreducible] GW GL GO YG GC GA gthn ginb
theorem sameFn_i (a b:Go.Sp.Fn) (ha:a.params.length≤1099511627776) (hb:b.params.length≤1099511627776):GF Tryz.prog 81 [.agg (encFn a),.agg (encFn b)] [] (.v (.bool (sameF a b))) []:=by
 have he:=Equal_s a.params b.params ha hb
 unfold sameF encFn
 cases h1:(a.name==b.name) with
 | false =>
  refine GC.enter Tryz.func81 Tryz.ntmps81 rfl (by simp only [gframe,grep,Nat.reduceSub];rfl) ?_
  refine w_grun ?_
  refine w_gret ?_
  exact ⟨rfl,rfl⟩
 | true =>
  cases h2:eqL (fun x y=>x==y) a.params b.params with
  | false =>
   rw [h2] at he
   refine GC.enter Tryz.func81 Tryz.ntmps81 rfl (by simp only [gframe,grep,Nat.reduceSub];rfl) ?_
   refine w_grun ?_
   refine w_gcall [] (he) ?_
   refine w_grun ?_
   refine w_gret ?_
   exact ⟨rfl,rfl⟩
  | true =>
   rw [h2] at he
   refine GC.enter Tryz.func81 Tryz.ntmps81 rfl (by simp only [gframe,grep,Nat.reduceSub];rfl) ?_
   refine w_grun ?_
   refine w_gcall [] (he) ?_
   refine w_grun ?_
   refine w_gret ?_
   exact ⟨rfl,rfl⟩
theorem sameNode_i (a b:Nd) (ha:a.kids.length≤1099511627776) (hb:b.kids.length≤1099511627776):GF Tryz.prog 83 [.agg (encNode a),.agg (encNode b)] [] (.v (.bool (sameN a b))) []:=by
 have he:=Equal_i a.kids b.kids ha hb
 unfold sameN encNode
 generalize eqL (fun x y=>x==y) a.kids b.kids=q at *
 cases h1:(a.kind==b.kind) with
 | false =>
  refine GC.enter Tryz.func83 Tryz.ntmps83 rfl (by simp only [gframe,grep,Nat.reduceSub];rfl) ?_
  refine w_grun ?_
  refine w_gret ?_
  exact ⟨rfl,rfl⟩
 | true =>
  cases h2:(a.n==b.n) with
  | false =>
   refine GC.enter Tryz.func83 Tryz.ntmps83 rfl (by simp only [gframe,grep,Nat.reduceSub];rfl) ?_
   refine w_grun ?_
   refine w_gret ?_
   exact ⟨rfl,rfl⟩
  | true =>
   cases h3:(a.s==b.s) with
   | false =>
    refine GC.enter Tryz.func83 Tryz.ntmps83 rfl (by simp only [gframe,grep,Nat.reduceSub];rfl) ?_
    refine w_grun ?_
    refine w_gret ?_
    exact ⟨rfl,rfl⟩
   | true =>
    refine GC.enter Tryz.func83 Tryz.ntmps83 rfl (by simp only [gframe,grep,Nat.reduceSub];rfl) ?_
    refine w_grun ?_
    refine w_gcall [] (he) ?_
    refine w_grun ?_
    refine w_gret ?_
    exact ⟨rfl,rfl⟩
theorem EqualFunc_f (a b:List Go.Sp.Fn) (ha:a.length≤1099511627776) (hb:b.length≤1099511627776) (ka:∀ x∈a,x.params.length≤1099511627776) (kb:∀ x∈b,x.params.length≤1099511627776) :
  GF Tryz.prog 80 [.sl 3 (a.map encFn),.sl 3 (b.map encFn),.v (.func (.func 81) #[] #[])] [] (.v (.bool (eqL sameF a b))) []:=by
 have hma:(a.map encFn).length=a.length:=by simp
 have hmb:(b.map encFn).length=b.length:=by simp
 by_cases hl:a.length=b.length
 ·have hd:(((a.map encFn).length:Int) != ((b.map encFn).length:Int))=false:=by rw [hma,hmb,hl];simp
  refine GC.enter Tryz.func80 Tryz.ntmps80 rfl (by simp only [gframe,grep,Nat.reduceSub];rfl) ?_
  refine w_grun ?_
  refine GW.range (a.map encFn).length (fun k fr Γ=>fr=[.any,.sl 3 (b.map encFn),.v (.func (.func 81) #[] #[]),.any,.any,.any,.any,.any,.any,.any,.any,.any,.any,.any,.any,.sl 3 (a.map encFn),.v (ii ((a.map encFn).length:Int)),.v (ii (k:Nat)),.any,.any,.any,.any,.any,.any,.any,.any,.any,.any,.any,.any,.any,.any]∧Γ=[]∧eqTo sameF a b k) ?_ (by omega) ?_ ?_ ?_
  ·exact ⟨_,_,Wk.frm w_wkf,rfl,rfl,fun j x y h=>by omega⟩
  ·rintro k _ _ ⟨rfl,rfl,_⟩;exact ⟨rfl,rfl,rfl⟩
  ·rintro k _ _ hlt ⟨rfl,rfl,hto⟩
   rw [hma] at hlt
   have hka:a[k]?=some a[k]:=by simp [hlt]
   have hltb:k < b.length:=by omega
   have hkb:b[k]?=some b[k]:=by simp [hltb]
   have hra:(a.map encFn)[k]?=some (encFn a[k]):=by rw [List.getElem?_map,hka];rfl
   have hrb:(b.map encFn)[k]?=some (encFn b[k]):=by rw [List.getElem?_map,hkb];rfl
   have hs:=sameFn_i a[k] b[k] (ka _ (List.getElem_mem hlt)) (kb _ (List.getElem_mem hltb))
   generalize a[k]=x at *
   generalize b[k]=y at *
   unfold encFn at hra hrb hs
   cases hxy:sameF x y with
   | true =>
    rw [hxy] at hs
    refine w_grun ?_
    refine w_gcallp [] (hs) ?_
    refine w_grun ?_
    exact ⟨rfl,rfl,_,_,(Wk.cut (n:=0) (Nat.le_refl _) rfl).trans (Wk.frm w_wkf),rfl,rfl,eqTo_succ hka hkb hto hxy⟩
   | false =>
    rw [hxy] at hs
    rw [eqL_no hka hkb (p:=sameF) hxy]
    refine w_grun ?_
    refine w_gcallp [] (hs) ?_
    refine w_grun ?_
    refine w_gret ?_
    exact ⟨rfl,rfl⟩
  ·rintro _ _ ⟨rfl,rfl,hto⟩
   rw [hma] at hto
   rw [eqTo_end hl hto]
   refine w_grun ?_
   refine w_gret ?_
   exact ⟨rfl,rfl⟩
 ·have hd:(((a.map encFn).length:Int) != ((b.map encFn).length:Int))=true:=by rw [hma,hmb];simpa using by omega
  rw [eqL_ne hl]
  refine GC.enter Tryz.func80 Tryz.ntmps80 rfl (by simp only [gframe,grep,Nat.reduceSub];rfl) ?_
  refine w_grun ?_
  refine w_gret ?_
  exact ⟨rfl,rfl⟩
theorem EqualFunc_n (a b:List Nd) (ha:a.length≤1099511627776) (hb:b.length≤1099511627776) (ka:∀ x∈a,x.kids.length≤1099511627776) (kb:∀ x∈b,x.kids.length≤1099511627776) :
  GF Tryz.prog 82 [.sl 5 (a.map encNode),.sl 5 (b.map encNode),.v (.func (.func 83) #[] #[])] [] (.v (.bool (eqL sameN a b))) []:=by
 have hma:(a.map encNode).length=a.length:=by simp
 have hmb:(b.map encNode).length=b.length:=by simp
 by_cases hl:a.length=b.length
 ·have hd:(((a.map encNode).length:Int) != ((b.map encNode).length:Int))=false:=by rw [hma,hmb,hl];simp
  refine GC.enter Tryz.func82 Tryz.ntmps82 rfl (by simp only [gframe,grep,Nat.reduceSub];rfl) ?_
  refine w_grun ?_
  refine GW.range (a.map encNode).length (fun k fr Γ=>fr=[.any,.sl 5 (b.map encNode),.v (.func (.func 83) #[] #[]),.any,.any,.any,.any,.any,.any,.any,.any,.any,.any,.any,.any,.sl 5 (a.map encNode),.v (ii ((a.map encNode).length:Int)),.v (ii (k:Nat)),.any,.any,.any,.any,.any,.any,.any,.any,.any,.any,.any,.any,.any,.any]∧Γ=[]∧eqTo sameN a b k) ?_ (by omega) ?_ ?_ ?_
  ·exact ⟨_,_,Wk.frm w_wkf,rfl,rfl,fun j x y h=>by omega⟩
  ·rintro k _ _ ⟨rfl,rfl,_⟩;exact ⟨rfl,rfl,rfl⟩
  ·rintro k _ _ hlt ⟨rfl,rfl,hto⟩
   rw [hma] at hlt
   have hka:a[k]?=some a[k]:=by simp [hlt]
   have hltb:k < b.length:=by omega
   have hkb:b[k]?=some b[k]:=by simp [hltb]
   have hra:(a.map encNode)[k]?=some (encNode a[k]):=by rw [List.getElem?_map,hka];rfl
   have hrb:(b.map encNode)[k]?=some (encNode b[k]):=by rw [List.getElem?_map,hkb];rfl
   have hs:=sameNode_i a[k] b[k] (ka _ (List.getElem_mem hlt)) (kb _ (List.getElem_mem hltb))
   generalize a[k]=x at *
   generalize b[k]=y at *
   unfold encNode at hra hrb hs
   cases hxy:sameN x y with
   | true =>
    rw [hxy] at hs
    refine w_grun ?_
    refine w_gcallp [] (hs) ?_
    refine w_grun ?_
    exact ⟨rfl,rfl,_,_,(Wk.cut (n:=0) (Nat.le_refl _) rfl).trans (Wk.frm w_wkf),rfl,rfl,eqTo_succ hka hkb hto hxy⟩
   | false =>
    rw [hxy] at hs
    rw [eqL_no hka hkb (p:=sameN) hxy]
    refine w_grun ?_
    refine w_gcallp [] (hs) ?_
    refine w_grun ?_
    refine w_gret ?_
    exact ⟨rfl,rfl⟩
  ·rintro _ _ ⟨rfl,rfl,hto⟩
   rw [hma] at hto
   rw [eqTo_end hl hto]
   refine w_grun ?_
   refine w_gret ?_
   exact ⟨rfl,rfl⟩
 ·have hd:(((a.map encNode).length:Int) != ((b.map encNode).length:Int))=true:=by rw [hma,hmb];simpa using by omega
  rw [eqL_ne hl]
  refine GC.enter Tryz.func82 Tryz.ntmps82 rfl (by simp only [gframe,grep,Nat.reduceSub];rfl) ?_
  refine w_grun ?_
  refine w_gret ?_
  exact ⟨rfl,rfl⟩
end Go.Xg
namespace Go.Xg
open Go.RowKit Go.Xw Go.Proofs
open Go.Xp (Nd Ar)
open Go.Im (eqA eqL eqL_ne eqL_no eqTo eqTo_succ eqTo_end)
theorem eq_ar (w:World) (s s':Str) (n n':Int):(Op.equalIn 10000 87 (.agg #[sv s,ii n]) (.agg #[sv s',ii n'])).run Tryz.prog w=.ok ((s==s')&&(n==n')) w:=by
 have hf:(Tryz.prog.fieldsOf 87).toList=[(Tryz.prog.fieldsOf 87)[0]!,(Tryz.prog.fieldsOf 87)[1]!]:=by kernel_rfl
 have a0:((Tryz.prog.fieldsOf 87)[0]!).type=9:=by kernel_rfl
 have a1:((Tryz.prog.fieldsOf 87)[1]!).type=3:=by kernel_rfl
 have b0:((Tryz.prog.fieldsOf 87)[0]!).offset=0:=by kernel_rfl
 have b1:((Tryz.prog.fieldsOf 87)[1]!).offset=1:=by kernel_rfl
 have c0:((Tryz.prog.fieldsOf 87)[0]!).name = "Name" := by kernel_rfl
 have c1:((Tryz.prog.fieldsOf 87)[1]!).name = "Size" := by kernel_rfl
 rw [show (10000:Nat)=9999+1 from rfl,run_equalIn_agg w 9999 _ _ _ (by kernel_rfl) (by kernel_rfl),hf]
 generalize (Tryz.prog.fieldsOf 87)[0]! = f0 at *
 generalize (Tryz.prog.fieldsOf 87)[1]! = f1 at *
 have hs:Tryz.prog.underlying 9=some .string:=by kernel_rfl
 have hi:Tryz.prog.underlying 3=some (.int .i64):=by kernel_rfl
 have p0:∀ (a:Str) (b:Int) w,(part f0.type #[sv a,ii b] f0.offset).run Tryz.prog w=.ok (sv a) w:=fun a b w=>by
  rw [a0,b0];rfl
 have p1:∀ (a:Str) (b:Int) w,(part f1.type #[sv a,ii b] f1.offset).run Tryz.prog w=.ok (ii b) w:=fun a b w=>by
  rw [a1,b1];rfl
 have e0:∀ w,(Op.equalIn 9999 f0.type (sv s) (sv s')).run Tryz.prog w=.ok (s==s') w:=fun w=>by
  rw [a0,show (9999:Nat)=9998+1 from rfl]
  have:=run_equalIn_string (P:=Tryz.prog) w 9998 9 ⟨s.toArray⟩ ⟨s'.toArray⟩ hs
  rw [show sv s=.string ⟨s.toArray⟩ from rfl,show sv s'=.string ⟨s'.toArray⟩ from rfl,this]
  simp [toList_mk]
 have e1:∀ w,(Op.equalIn 9999 f1.type (ii n) (ii n')).run Tryz.prog w=.ok (n==n') w:=fun w=>by
  rw [a1,show (9999:Nat)=9998+1 from rfl]
  exact run_equalIn_int (P:=Tryz.prog) w 9998 3 .i64 .i64 n n' hi
 have n0:f0.name ≠ "_" := by rw [c0];decide
 have n1:f1.name ≠ "_" := by rw [c1];decide
 rw [Op.eqFields,if_pos n0]
 simp only [Sem.run_bind,p0,Result.andThen_ok,e0]
 cases s==s' with
 | false=>simp
 | true =>
  simp only [Bool.not_true,Bool.false_eq_true,if_false,Bool.true_and]
  rw [Op.eqFields,if_pos n1]
  simp only [Sem.run_bind,p1,Result.andThen_ok,e1]
  cases n==n' with
  | false=>simp
  | true=>simp [Op.eqFields]
theorem YG.neAr {fr:List GV} {Γ:List Ob} {x y:Operand} {t':TypeId} {s s':Str} {n n':Int} (hx:gev fr x=.agg [.v (sv s),.v (ii n)]) (hy:gev fr y=.agg [.v (sv s'),.v (ii n')]) :
  YG Tryz.prog (.binOp .neq 87 x y t') fr Γ (.v (.bool (!((s==s')&&(n==n'))))):=fun B K β w l hI hF=>by
 have two:∀ {v:Value} {a b:Value},Rel K β v (.agg [.v a,.v b])→v=.agg #[a,b]:=fun {v a b} h=>by
  cases h with
  | agg vs _ hl hh =>
   match vs,hl with
   | [u1,u2],_ =>
    have h1:=Rel.v_inv (hh 0 u1 (.v a) rfl rfl)
    have h2:=Rel.v_inv (hh 1 u2 (.v b) rfl rfl)
    rw [h1,h2]
 have hxv:=two (by rw [←hx];exact hF.ev x)
 have hyv:=two (by rw [←hy];exact hF.ev y)
 refine ⟨_,fun d ty pos af=>?_,.v _⟩
 have hg:=run_eqGuard_agg (P:=Tryz.prog) w .neq 87 x y #[sv s,ii n] #[sv s',ii n'] (by kernel_rfl)
 have hn:=run_neq_struct (P:=Tryz.prog) w 87 #[sv s,ii n] #[sv s',ii n']
 rw [eq_ar,Result.andThen_ok] at hn
 simp [execOp,hxv,hyv,hg,hn]
attribute [local irreducible] GW GL GO YG GC GA gthn ginb
theorem Equal_a (a b:List Ar) (ha:a.length≤1099511627776) (hb:b.length≤1099511627776):GF Tryz.prog 79 [(.sl 2 (a.map fun s=>encAr s)),(.sl 2 (b.map fun s=>encAr s))] [] (.v (.bool (eqL eqA a b))) []:=by
 have hma:(a.map fun s=>encAr s).length=a.length:=by simp
 have hmb:(b.map fun s=>encAr s).length=b.length:=by simp
 by_cases hl:a.length=b.length
 ·have hd:(((a.map fun s=>encAr s).length:Int) != ((b.map fun s=>encAr s).length:Int))=false:=by rw [hma,hmb,hl];simp
  refine GC.enter Tryz.func79 Tryz.ntmps79 rfl (by simp only [gframe,grep,Nat.reduceSub];rfl) ?_
  refine w_grun ?_
  refine GW.range (a.map fun s=>encAr s).length (fun k fr Γ=>fr=[(.sl 2 (a.map fun s=>encAr s)),(.sl 2 (b.map fun s=>encAr s)),.any,.any,.any,.any,.any,.any,.any,.any,.any,.any,.v (ii ((a.map fun s=>encAr s).length:Int)),.v (ii (k:Nat)),.any,.any,.any,.any,.any,.any,.any,.any,.any,.any,.any,.any]∧Γ=[]∧eqTo eqA a b k) ?_ (by omega) ?_ ?_ ?_
  ·exact ⟨_,_,Wk.frm w_wkf,rfl,rfl,fun j x y h=>by omega⟩
  ·rintro k _ _ ⟨rfl,rfl,_⟩;exact ⟨rfl,rfl,rfl⟩
  ·rintro k _ _ hlt ⟨rfl,rfl,hto⟩
   rw [hma] at hlt
   have hka:a[k]?=some a[k]:=by simp [hlt]
   have hltb:k < b.length:=by omega
   have hkb:b[k]?=some b[k]:=by simp [hltb]
   have hra:(a.map fun s=>encAr s)[k]?=some (encAr a[k]):=by rw [List.getElem?_map,hka];rfl
   have hrb:(b.map fun s=>encAr s)[k]?=some (encAr b[k]):=by rw [List.getElem?_map,hkb];rfl
   generalize a[k]=x at *
   generalize b[k]=y at *
   unfold encAr at hra hrb
   cases hxy:eqA x y with
   | true =>
    have hn2:(!((x.name==y.name)&&(x.size==y.size)))=false:=by rw [show ((x.name==y.name)&&(x.size==y.size))=eqA x y from rfl,hxy];rfl
    refine w_grun ?_
    refine GW.draw (.q 0 (.q 1 (.q 2 (.q 3 (.q 4 (.q 5 (.q 6 (.q 7 (.q 8 .nil))))))))) (by kernel_rfl) (by kernel_rfl) ?_
    refine w_gorun ?_
    apply OP
    ·exact rfl
    ·intro Γ;exact YG.neAr rfl rfl
    refine w_gno ?_
    refine w_gorun ?_
    refine w_grun ?_
    exact ⟨rfl,rfl,_,_,Wk.frm w_wkf,rfl,rfl,eqTo_succ hka hkb hto hxy⟩
   | false =>
    have hn2:(!((x.name==y.name)&&(x.size==y.size)))=true:=by rw [show ((x.name==y.name)&&(x.size==y.size))=eqA x y from rfl,hxy];rfl
    rw [eqL_no hka hkb (p:=eqA) hxy]
    refine w_grun ?_
    refine GW.draw (.q 0 (.q 1 (.q 2 (.q 3 (.q 4 (.q 5 (.q 6 (.q 7 (.q 8 .nil))))))))) (by kernel_rfl) (by kernel_rfl) ?_
    refine w_gorun ?_
    apply OP
    ·exact rfl
    ·intro Γ;exact YG.neAr rfl rfl
    refine w_gno ?_
    refine w_gorun ?_
    refine w_grun ?_
    refine w_gret ?_
    exact ⟨rfl,rfl⟩
  ·rintro _ _ ⟨rfl,rfl,hto⟩
   rw [hma] at hto
   rw [eqTo_end hl hto]
   refine w_grun ?_
   refine w_gret ?_
   exact ⟨rfl,rfl⟩
 ·have hd:(((a.map fun s=>encAr s).length:Int) != ((b.map fun s=>encAr s).length:Int))=true:=by rw [hma,hmb];simpa using by omega
  rw [eqL_ne hl]
  refine GC.enter Tryz.func79 Tryz.ntmps79 rfl (by simp only [gframe,grep,Nat.reduceSub];rfl) ?_
  refine w_grun ?_
  refine w_gret ?_
  exact ⟨rfl,rfl⟩
end Go.Xg
set_option maxHeartbeats 1000000
namespace Go.Xg
open Go.RowKit Go.Xw Go.Proofs
open Go.Xp (Tok Nd T signOf one levels kwVar kwIf kwElse kwWhile kwReturn Job)
open Go.Sp Go.Im
attribute [local irreducible] GW GL GO YG GC GA gthn ginb
structure Ies (f:Nat):Prop where
 expr:∀ d p t q x,p.ok→d+f≤1099511627776→iE f (.expr d) p=some (t,q)→GF Tryz.prog 216 [.loc 0 0,.v (ii (d:Nat))] [encPR p x] (qT t) [encPR q x]
 level:∀ k d p t q x,p.ok→k≤9→d+f≤1099511627776→iE f (.level k d) p=some (t,q)→GF Tryz.prog 228 [.loc 0 0,.v (ii (k:Nat)),.v (ii (d:Nat))] [encPR p x] (qT t) [encPR q x]
 operand:∀ d p t q x,p.ok→d+f≤1099511627776→iE f (.operand d) p=some (t,q)→GF Tryz.prog 234 [.loc 0 0,.v (ii (d:Nat))] [encPR p x] (qT t) [encPR q x]
 exprs:∀ d p l q x,p.ok→d+f≤1099511627776→iA f d [] p=some (l,q)→GF Tryz.prog 237 [.loc 0 0,.v (ii (d:Nat))] [encPR p x] (.sl 1 (pTs l)) [encPR q x]
theorem zero_g:GF Tryz.prog 185 [.v (ii 0),.v (ii 0),.v (sv []),.sl 1 []] [] (qT T.zero) []:=newTree_g 0 0 [] [] [] rfl
theorem expr_i {f:Nat} (C:Ies f) (d:Nat) (p:RS) (t:T) (q:RS) (x:PX) (hp:p.ok) (hd:d+(f+1)≤1099511627776) (h:iE (f+1) (.expr d) p=some (t,q)) :
  GF Tryz.prog 216 [.loc 0 0,.v (ii (d:Nat))] [encPR p x] (qT t) [encPR q x]:=by
 rw [iE] at h
 have hdp:=deeper_i p d x hp
 by_cases hc:(deeper p d).code=0
 ·have hc':((deeper p d).code==0)=true:=by simpa using hc
  rw [if_pos hc] at h
  rw [hc'] at hdp
  rw [deeper_same hc] at h hdp
  have hl:=C.level 0 (d+1) p t q x hp (by omega) (by omega) h
  refine GC.enter Tryz.func216 Tryz.ntmps216 rfl (by simp only [gframe,grep,Nat.reduceSub];rfl) ?_
  refine w_grun ?_
  refine w_gcall [0] (hdp) ?_
  refine w_grun ?_
  refine w_gcall [0] (hl) ?_
  refine w_grun ?_
  refine w_gret ?_
  exact ⟨rfl,rfl⟩
 ·have hc':((deeper p d).code==0)=false:=by simpa using hc
  rw [if_neg hc] at h
  rw [hc'] at hdp
  cases h
  refine GC.enter Tryz.func216 Tryz.ntmps216 rfl (by simp only [gframe,grep,Nat.reduceSub];rfl) ?_
  refine w_grun ?_
  refine w_gcall [0] (hdp) ?_
  refine w_grun ?_
  refine w_gcall [] (zero_g) ?_
  refine w_grun ?_
  refine w_gret ?_
  exact ⟨rfl,rfl⟩
theorem level_i {f:Nat} (C:∀ f',f'≤f→Ies f') (k d:Nat) (p:RS) (t:T) (q:RS) (x:PX) (hp:p.ok) (hk:k≤9) (hd:d+(f+1)≤1099511627776) (h:iE (f+1) (.level k d) p=some (t,q)) :
  GF Tryz.prog 228 [.loc 0 0,.v (ii (k:Nat)),.v (ii (d:Nat))] [encPR p x] (qT t) [encPR q x]:=by
 rw [iE] at h
 by_cases hk9:k=9
 ·subst hk9
  rw [if_pos rfl] at h
  have ho:=(C f (Nat.le_refl _)).operand d p t q x hp (by omega) h
  refine GC.enter Tryz.func228 Tryz.ntmps228 rfl (by simp only [gframe,grep,Nat.reduceSub];rfl) ?_
  refine w_grun ?_
  refine w_gcall [] (levels_i) ?_
  refine w_grun ?_
  refine w_gcall [0] (ho) ?_
  refine w_grun ?_
  refine w_gret ?_
  exact ⟨rfl,rfl⟩
 ·rw [if_neg hk9] at h
  have hk9':((k:Int)==9)=false:=by simp;omega
  cases he:iE f (.level (k+1) d) p with
  | none=>rw [he] at h;cases h
  | some r =>
   obtain ⟨out,p1⟩:=r
   rw [he] at h
   simp only at h
   have hp1:=((iE_to f).1 _ _ _ _ hp he).ok hp
   have hl:=(C f (Nat.le_refl _)).level (k+1) d p out p1 x hp (by omega) (by omega) he
   refine GC.enter Tryz.func228 Tryz.ntmps228 rfl (by simp only [gframe,grep,Nat.reduceSub];rfl) ?_
   refine w_grun ?_
   refine w_gcall [] (levels_i) ?_
   refine w_grun ?_
   refine w_gcall [0] (hl) ?_
   refine w_grun ?_
   refine GW.loop (fun z:Nat × T × RS=>z.1) (fun z fr Γ=>fr=[.loc 0 0,.v (ii (k:Nat)),.v (ii (d:Nat)),.any,.any,.any,.any,qT z.2.1,.any,.any,.any,.any,.any,.any,.any,.any,.any,.any,.any,.any,.any,.any,.any,.any,.any,.any,.any,.any,.any,.any,.any,.any,.any,.any,.any,.any,.any,.any,.any,.any,.any,.any,.any,.any,.any,.any,.any,.any,.any,.any,.any,.any,.any,.any,.any,.any,.any,.any,.any,.any,.any,.any,.any,.any]∧Γ=[encPR z.2.2 x]∧z.2.2.ok∧z.1≤f∧iE z.1 (.loop k d z.2.1) z.2.2=some (t,q)) (f,out,p1) ?_ ?_
   ·exact ⟨_,_,Wk.frm w_wkf,rfl,rfl,hp1,Nat.le_refl _,h⟩
   ·clear h he hl
    rintro ⟨g,out,p⟩ _ _ ⟨rfl,rfl,hp,hgf,h⟩
    simp only at hp hgf h
    cases g with
    | zero=>simp [iE] at h
    | succ g =>
    rw [iE] at h
    have hk:k < 9:=by omega
    have ht:=tok_g p 0 x hp (by decide)
    by_cases hc:p.code=0
    ·have hc':(p.code==0)=true:=by simpa using hc
     by_cases h3:(tok p 0).kind=3
     ·have h3':((tok p 0).kind==3)=true:=by simpa using h3
      have hlr:=lev_row hk
      have hco:=Contains_g (levels.getD k []) (tok p 0).s (lev_len k hk)
      by_cases hit:(levels.getD k []).contains (tok p 0).s=true
      ·rw [if_pos ⟨hc,h3,hit⟩] at h
       rw [hit] at hco
       have hlt:p.i < p.l.length:=tok_lt (k:=0) (by omega)
       have hpl:=hp.2
       cases hb:iE g (.level (k+1) d) p.next with
       | none=>rw [hb] at h;cases h
       | some r =>
        obtain ⟨b,p2⟩:=r
        rw [hb] at h
        simp only at h
        have hpn:=(to_next hlt).ok hp
        have hp2:=((iE_to g).1 _ _ _ _ hpn hb).ok hpn
        have hl2:=(C g (by omega)).level (k+1) d p.next b p2 x hpn (by omega) (by omega) hb
        generalize tok p 0=tk at *
        have hnt:=newTree_g 6 tk.at_ tk.s [out,b] [[qT out],[qT b]] (pTs_map _)
        refine w_grun ?_
        refine GW.draw (.q 0 (.q 1 (.q 2 (.q 3 (.q 4 (.q 5 (.q 6 (.a 7 (.q 8 (.q 9 (.q 10 (.q 11 (.q 13 (.q 16 (.a 12 (.q 14 (.q 15 (.a 17 (.q 18 (.a 19 (.q 20 .nil))))))))))))))))))))) (by kernel_rfl) (by kernel_rfl) ?_
        refine w_gorun ?_
        refine w_gotcall [0] (ht) ?_
        refine w_gorun ?_
        refine w_gotcall [] (levels_i) ?_
        refine w_gorun ?_
        refine w_gotcall [0] (ht) ?_
        refine w_gorun ?_
        refine w_gotcall [] (hco) ?_
        refine w_gorun ?_
        refine w_grun ?_
        refine w_gcall [0] (ht) ?_
        refine w_grun ?_
        refine GW.draw (.q 0 (.q 1 (.q 2 (.q 3 (.q 4 (.q 5 (.q 6 (.q 7 (.q 8 (.a 9 (.a 10 (.a 11 (.q 12 .nil))))))))))))) (by kernel_rfl) (by kernel_rfl) ?_
        refine w_gorun ?_
        refine w_gocall [0] (hl2) ?_
        refine w_gorun ?_
        refine w_gomk ?_
        refine w_gorun ?_
        refine w_gocall [] (hnt) ?_
        refine w_gorun ?_
        refine w_grun ?_
        exact ⟨(g,one 6 tk.at_ tk.s [out,b],p2),⟨_,_,(Wk.cut (n:=1) (Nat.le_of_ble_eq_true rfl) rfl).trans (Wk.frm w_wkf),rfl,rfl,hp2,by omega,h⟩,by simp⟩
      ·have hit:(levels.getD k []).contains (tok p 0).s=false:=by simpa using hit
       rw [if_neg (by rw [hit];simp)] at h
       obtain ⟨rfl,rfl⟩:out=t∧p=q:=by simpa using h
       rw [hit] at hco
       generalize tok p 0=tk at *
       refine w_grun ?_
       refine GW.draw (.q 0 (.q 1 (.q 2 (.q 3 (.q 4 (.q 5 (.q 6 (.a 7 (.q 8 (.q 9 (.q 10 (.q 11 (.q 13 (.q 16 (.a 12 (.q 14 (.q 15 (.a 17 (.q 18 (.a 19 (.q 20 .nil))))))))))))))))))))) (by kernel_rfl) (by kernel_rfl) ?_
       refine w_gorun ?_
       refine w_gotcall [0] (ht) ?_
       refine w_gorun ?_
       refine w_gotcall [] (levels_i) ?_
       refine w_gorun ?_
       refine w_gotcall [0] (ht) ?_
       refine w_gorun ?_
       refine w_gotcall [] (hco) ?_
       refine w_gorun ?_
       refine w_grun ?_
       refine w_gexit ?_
       refine w_grun ?_
       refine w_gret ?_
       exact ⟨rfl,rfl⟩
     ·have h3':((tok p 0).kind==3)=false:=by simpa using h3
      rw [if_neg (fun hh=>h3 hh.2.1)] at h
      obtain ⟨rfl,rfl⟩:out=t∧p=q:=by simpa using h
      generalize tok p 0=tk at *
      refine w_grun ?_
      refine GW.draw (.q 0 (.q 1 (.q 2 (.q 3 (.q 4 (.q 5 (.q 6 (.a 7 (.q 8 (.q 9 (.q 10 (.q 11 (.q 13 (.q 16 (.a 12 (.q 14 (.q 15 (.a 17 (.q 18 (.a 19 (.q 20 .nil))))))))))))))))))))) (by kernel_rfl) (by kernel_rfl) ?_
      refine w_gorun ?_
      refine w_gotcall [0] (ht) ?_
      refine w_gorun ?_
      refine w_grun ?_
      refine w_gexit ?_
      refine w_grun ?_
      refine w_gret ?_
      exact ⟨rfl,rfl⟩
    ·have hc':(p.code==0)=false:=by simpa using hc
     rw [if_neg (fun hh=>hc hh.1)] at h
     obtain ⟨rfl,rfl⟩:out=t∧p=q:=by simpa using h
     refine w_grun ?_
     refine GW.draw (.q 0 (.q 1 (.q 2 (.q 3 (.q 4 (.q 5 (.q 6 (.a 7 (.q 8 (.q 9 (.q 10 (.q 11 (.q 13 (.q 16 (.a 12 (.q 14 (.q 15 (.a 17 (.q 18 (.a 19 (.q 20 .nil))))))))))))))))))))) (by kernel_rfl) (by kernel_rfl) ?_
     refine w_gorun ?_
     refine w_grun ?_
     refine w_gexit ?_
     refine w_grun ?_
     refine w_gret ?_
     exact ⟨rfl,rfl⟩
theorem exprs_i {f:Nat} (C:∀ f',f'≤f→Ies f') (d:Nat) (p:RS) (l:List T) (q:RS) (x:PX) (hp:p.ok) (hd:d+(f+1)≤1099511627776) (h:iA (f+1) d [] p=some (l,q)) :
  GF Tryz.prog 237 [.loc 0 0,.v (ii (d:Nat))] [encPR p x] (.sl 1 (pTs l)) [encPR q x]:=by
 refine GC.enter Tryz.func237 Tryz.ntmps237 rfl (by simp only [gframe,grep,Nat.reduceSub];rfl) ?_
 refine w_grun ?_
 refine GW.wk (Wk.nilV (t:=5) (a:=none) (c:=0) 62 1 rfl) ?_
 refine GW.loop (fun z:Nat × List T × RS=>z.1) (fun z fr Γ=>∃ n rows,fr=[.loc 0 0,.v (ii (d:Nat)),.any,.any,.any,.vec 1 n,.any,.any,.any,.any,.any,.any,.any,.any,.any,.any,.any,.any,.any,.any,.any,.any,.any,.any,.any,.any,.any,.any,.any,.any,.any,.any]∧Γ=[encPR z.2.2 x,.vec 62 1 0 rows]∧rows.length=n∧rows=pTs z.2.1∧n+z.1≤f+1∧z.2.2.ok∧iA z.1 d z.2.1 z.2.2=some (l,q)) (f+1,[],p) ?_ ?_
 ·exact ⟨_,_,Wk.frm w_wkf,0,[],rfl,rfl,rfl,rfl,by simp,hp,h⟩
 ·clear h hp
  rintro ⟨g,acc,p⟩ _ _ ⟨n,rows,rfl,rfl,hn,hrow,hng,hp,h⟩
  simp only at hrow hng hp h
  cases g with
  | zero=>simp [iA] at h
  | succ g =>
  rw [iA] at h
  have hi:=is_i p 0 [41] x hp (by decide)
  have hacc:acc.length=n:=by rw [←hn,hrow,pTs_len]
  by_cases hc:p.code=0
  ·have hc':(p.code==0)=true:=by simpa using hc
   cases hs:is p 0 [41] with
   | true =>
    rw [hs] at hi
    rw [if_neg (fun hh=>by have:=hh.2;rw [hs] at this;cases this)] at h
    obtain ⟨rfl,rfl⟩:acc=l∧want p [41]=q:=by simpa using h
    have hw:=want_i p [41] x hp
    subst hrow
    refine w_grun ?_
    refine w_gcall [0] (hi) ?_
    refine w_grun ?_
    refine w_gexit ?_
    refine w_grun ?_
    refine w_gmk ?_
    refine w_grun ?_
    refine w_gcall [0] (hw) ?_
    refine w_grun ?_
    refine GW.wk (Wk.snap (t:=4) rfl rfl rfl hn) ?_
    refine w_gret ?_
    exact ⟨rfl,rfl⟩
   | false =>
    rw [hs] at hi
    rw [if_pos ⟨hc,hs⟩] at h
    by_cases h0:acc.length=0
    ·rw [if_pos h0] at h
     have h0':decide ((0:Int) < (n:Int))=false:=by simpa using by omega
     cases hb:iE g (.expr d) p with
     | none=>rw [hb] at h;cases h
     | some r =>
      obtain ⟨a,p2⟩:=r
      rw [hb] at h
      simp only at h
      have hp2:=((iE_to g).1 _ _ _ _ hp hb).ok hp
      have he:=(C g (by omega)).expr d p a p2 x hp (by omega) hb
      refine w_grun ?_
      refine w_gcall [0] (hi) ?_
      refine w_grun ?_
      refine w_gcall [0] (he) ?_
      refine w_grun ?_
      refine w_gpush ?_
      refine w_grun ?_
      exact ⟨(g,acc++[a],p2),⟨_,_,Wk.frm w_wkf,_,_,rfl,rfl,by simp [hn],by rw [pTs_app,hrow],by show n+1+g≤f+1;omega,hp2,h⟩,by simp⟩
    ·rw [if_neg h0] at h
     have h0':decide ((0:Int) < (n:Int))=true:=by simpa using by omega
     have hpw:=(to_want hp [44]).ok hp
     have hw:=want_i p [44] x hp
     cases hb:iE g (.expr d) (want p [44]) with
     | none=>rw [hb] at h;cases h
     | some r =>
      obtain ⟨a,p2⟩:=r
      rw [hb] at h
      simp only at h
      have hp2:=((iE_to g).1 _ _ _ _ hpw hb).ok hpw
      have he:=(C g (by omega)).expr d _ a p2 x hpw (by omega) hb
      refine w_grun ?_
      refine w_gcall [0] (hi) ?_
      refine w_grun ?_
      refine w_gmk ?_
      refine w_grun ?_
      refine w_gcall [0] (hw) ?_
      refine w_grun ?_
      refine w_gcall [0] (he) ?_
      refine w_grun ?_
      refine w_gpush ?_
      refine w_grun ?_
      exact ⟨(g,acc++[a],p2),⟨_,_,Wk.frm w_wkf,_,_,rfl,rfl,by simp [hn],by rw [pTs_app,hrow],by show n+1+g≤f+1;omega,hp2,h⟩,by simp⟩
  ·have hc':(p.code==0)=false:=by simpa using hc
   rw [if_neg (fun hh=>hc hh.1)] at h
   obtain ⟨rfl,rfl⟩:acc=l∧want p [41]=q:=by simpa using h
   have hw:=want_i p [41] x hp
   subst hrow
   refine w_grun ?_
   refine w_gexit ?_
   refine w_grun ?_
   refine w_gmk ?_
   refine w_grun ?_
   refine w_gcall [0] (hw) ?_
   refine w_grun ?_
   refine GW.wk (Wk.snap (t:=4) rfl rfl rfl hn) ?_
   refine w_gret ?_
   exact ⟨rfl,rfl⟩
end Go.Xg
namespace Go.Xg
open Go.RowKit Go.Xw Go.Proofs
open Go.Xp (Tok Nd T signOf one levels kwVar kwIf kwElse kwWhile kwReturn Job)
open Go.Sp Go.Im
attribute [local irreducible] GW GL GO YG GC GA gthn ginb
theorem operand_i {f:Nat} (C:Ies f) (d:Nat) (p:RS) (t:T) (q:RS) (x:PX) (hp:p.ok) (hd:d+(f+1)≤1099511627776) (h:iE (f+1) (.operand d) p=some (t,q)) :
  GF Tryz.prog 234 [.loc 0 0,.v (ii (d:Nat))] [encPR p x] (qT t) [encPR q x]:=by
 rw [iE] at h
 have hdp:=deeper_i p d x hp
 have ht:=tok_g p 0 x hp (by decide)
 by_cases hc:(deeper p d).code=0
 case neg =>
  have hc':((deeper p d).code==0)=false:=by simpa using hc
  rw [if_neg hc] at h
  rw [hc'] at hdp
  cases h
  refine GC.enter Tryz.func234 Tryz.ntmps234 rfl (by simp only [gframe,grep,Nat.reduceSub];rfl) ?_
  refine w_grun ?_
  refine w_gcall [0] (ht) ?_
  refine w_grun ?_
  refine w_gcall [0] (hdp) ?_
  refine w_grun ?_
  refine w_gcall [] (zero_g) ?_
  refine w_grun ?_
  refine w_gret ?_
  exact ⟨rfl,rfl⟩
 case pos =>
 have hc':((deeper p d).code==0)=true:=by simpa using hc
 rw [if_pos hc] at h
 rw [hc',deeper_same hc] at hdp
 clear hc hc'
 have h1:=is_i p 0 [45] x hp (by decide)
 have h2:=is_i p 0 [33] x hp (by decide)
 have h3:=is_i p 0 [126] x hp (by decide)
 have hpl:=hp.2
 have hpi:=hp.1
 cases hs1:is p 0 [45] with
 | true =>
  rw [hs1] at h1
  rw [if_pos (.inl hs1)] at h
  have hlt:p.i < p.l.length:=is_lt (k:=0) hs1
  have hpn:=(to_next hlt).ok hp
  cases hb:iE f (.operand (d+1)) p.next with
  | none=>rw [hb] at h;cases h
  | some r =>
   obtain ⟨b,p2⟩:=r
   rw [hb] at h
   cases h
   have hop:=C.operand (d+1) p.next b _ x hpn (by omega) hb
   generalize tok p 0=tk at *
   have hnt:=newTree_g 5 tk.at_ tk.s [b] [[qT b]] (pTs_map _)
   refine GC.enter Tryz.func234 Tryz.ntmps234 rfl (by simp only [gframe,grep,Nat.reduceSub];rfl) ?_
   refine w_grun ?_
   refine w_gcall [0] (ht) ?_
   refine w_grun ?_
   refine w_gcall [0] (hdp) ?_
   refine w_grun ?_
   refine w_gcall [0] (h1) ?_
   refine w_grun ?_
   refine GW.draw (.q 0 (.q 1 (.q 2 (.q 3 (.q 4 (.q 5 (.q 6 (.a 7 (.a 8 (.a 9 (.q 10 .nil))))))))))) (by kernel_rfl) (by kernel_rfl) ?_
   refine w_gorun ?_
   refine w_gocall [0] (hop) ?_
   refine w_gorun ?_
   refine w_gomk ?_
   refine w_gorun ?_
   refine w_gocall [] (hnt) ?_
   refine w_gorun ?_
   refine w_grun ?_
   refine w_gret ?_
   exact ⟨rfl,rfl⟩
 | false =>
 rw [hs1] at h1
 cases hs2:is p 0 [33] with
 | true =>
  rw [hs2] at h2
  rw [if_pos (.inr (.inl hs2))] at h
  have hlt:p.i < p.l.length:=is_lt (k:=0) hs2
  have hpn:=(to_next hlt).ok hp
  cases hb:iE f (.operand (d+1)) p.next with
  | none=>rw [hb] at h;cases h
  | some r =>
   obtain ⟨b,p2⟩:=r
   rw [hb] at h
   cases h
   have hop:=C.operand (d+1) p.next b _ x hpn (by omega) hb
   generalize tok p 0=tk at *
   have hnt:=newTree_g 5 tk.at_ tk.s [b] [[qT b]] (pTs_map _)
   refine GC.enter Tryz.func234 Tryz.ntmps234 rfl (by simp only [gframe,grep,Nat.reduceSub];rfl) ?_
   refine w_grun ?_
   refine w_gcall [0] (ht) ?_
   refine w_grun ?_
   refine w_gcall [0] (hdp) ?_
   refine w_grun ?_
   refine w_gcall [0] (h1) ?_
   refine w_grun ?_
   refine w_gcall [0] (h2) ?_
   refine w_grun ?_
   refine GW.draw (.q 0 (.q 1 (.q 2 (.q 3 (.q 4 (.q 5 (.q 6 (.a 7 (.a 8 (.a 9 (.q 10 .nil))))))))))) (by kernel_rfl) (by kernel_rfl) ?_
   refine w_gorun ?_
   refine w_gocall [0] (hop) ?_
   refine w_gorun ?_
   refine w_gomk ?_
   refine w_gorun ?_
   refine w_gocall [] (hnt) ?_
   refine w_gorun ?_
   refine w_grun ?_
   refine w_gret ?_
   exact ⟨rfl,rfl⟩
 | false =>
 rw [hs2] at h2
 cases hs3:is p 0 [126] with
 | true =>
  rw [hs3] at h3
  rw [if_pos (.inr (.inr hs3))] at h
  have hlt:p.i < p.l.length:=is_lt (k:=0) hs3
  have hpn:=(to_next hlt).ok hp
  cases hb:iE f (.operand (d+1)) p.next with
  | none=>rw [hb] at h;cases h
  | some r =>
   obtain ⟨b,p2⟩:=r
   rw [hb] at h
   cases h
   have hop:=C.operand (d+1) p.next b _ x hpn (by omega) hb
   generalize tok p 0=tk at *
   have hnt:=newTree_g 5 tk.at_ tk.s [b] [[qT b]] (pTs_map _)
   refine GC.enter Tryz.func234 Tryz.ntmps234 rfl (by simp only [gframe,grep,Nat.reduceSub];rfl) ?_
   refine w_grun ?_
   refine w_gcall [0] (ht) ?_
   refine w_grun ?_
   refine w_gcall [0] (hdp) ?_
   refine w_grun ?_
   refine w_gcall [0] (h1) ?_
   refine w_grun ?_
   refine w_gcall [0] (h2) ?_
   refine w_grun ?_
   refine w_gcall [0] (h3) ?_
   refine w_grun ?_
   refine GW.draw (.q 0 (.q 1 (.q 2 (.q 3 (.q 4 (.q 5 (.q 6 (.a 7 (.a 8 (.a 9 (.q 10 .nil))))))))))) (by kernel_rfl) (by kernel_rfl) ?_
   refine w_gorun ?_
   refine w_gocall [0] (hop) ?_
   refine w_gorun ?_
   refine w_gomk ?_
   refine w_gorun ?_
   refine w_gocall [] (hnt) ?_
   refine w_gorun ?_
   refine w_grun ?_
   refine w_gret ?_
   exact ⟨rfl,rfl⟩
 | false =>
 rw [hs3] at h3
 rw [if_neg (by rw [hs1,hs2,hs3];decide)] at h
 by_cases hk:(tok p 0).kind=1
 case pos =>
  rw [if_pos hk] at h
  have hlt:p.i < p.l.length:=tok_lt (k:=0) (by omega)
  have hk':((tok p 0).kind==1)=true:=by simpa using hk
  cases h
  generalize tok p 0=tk at *
  have hnt:=newTree_n 1 tk.at_ [] []
  refine GC.enter Tryz.func234 Tryz.ntmps234 rfl (by simp only [gframe,grep,Nat.reduceSub];rfl) ?_
  refine w_grun ?_
  refine w_gcall [0] (ht) ?_
  refine w_grun ?_
  refine w_gcall [0] (hdp) ?_
  refine w_grun ?_
  refine w_gcall [0] (h1) ?_
  refine w_grun ?_
  refine w_gcall [0] (h2) ?_
  refine w_grun ?_
  refine w_gcall [0] (h3) ?_
  refine w_grun ?_
  refine w_gcall [] (hnt) ?_
  refine w_grun ?_
  refine GW.wk (Wk.freeze (i:=2) rfl rfl rfl (Nat.le_of_ble_eq_true rfl)) ?_
  refine w_gret ?_
  exact ⟨rfl,rfl⟩
 case neg =>
 rw [if_neg hk] at h
 have hk':((tok p 0).kind==1)=false:=by simpa using hk
 have h4:=is_i p 0 [40] x hp (by decide)
 cases hs4:is p 0 [40] with
 | true =>
  rw [hs4] at h4
  rw [if_pos hs4] at h
  have hlt:p.i < p.l.length:=is_lt (k:=0) hs4
  have hpn:=(to_next hlt).ok hp
  cases hb:iE f (.expr (d+1)) p.next with
  | none=>rw [hb] at h;cases h
  | some r =>
   obtain ⟨b,p2⟩:=r
   rw [hb] at h
   cases h
   have hp2:=((iE_to f).1 _ _ _ _ hpn hb).ok hpn
   have hop:=C.expr (d+1) p.next _ p2 x hpn (by omega) hb
   have hw:=want_i p2 [41] x hp2
   generalize tok p 0=tk at *
   refine GC.enter Tryz.func234 Tryz.ntmps234 rfl (by simp only [gframe,grep,Nat.reduceSub];rfl) ?_
   refine w_grun ?_
   refine w_gcall [0] (ht) ?_
   refine w_grun ?_
   refine w_gcall [0] (hdp) ?_
   refine w_grun ?_
   refine w_gcall [0] (h1) ?_
   refine w_grun ?_
   refine w_gcall [0] (h2) ?_
   refine w_grun ?_
   refine w_gcall [0] (h3) ?_
   refine w_grun ?_
   refine w_gcall [0] (h4) ?_
   refine w_grun ?_
   refine w_gcall [0] (hop) ?_
   refine w_grun ?_
   refine w_gmk ?_
   refine w_grun ?_
   refine w_gcall [0] (hw) ?_
   refine w_grun ?_
   refine w_gret ?_
   exact ⟨rfl,rfl⟩
 | false =>
 rw [hs4] at h4
 rw [if_neg (by rw [hs4];decide)] at h
 have hn:=nameS_i p x hp
 have hpn:=(to_nameS hp).ok hp
 by_cases hcn:(nameS p).code=0
 case neg =>
  rw [if_neg hcn] at h
  have hcn':((nameS p).code != 0)=true:=by simpa using hcn
  cases h
  generalize tok p 0=tk at *
  generalize nameS p=p1 at *
  have hnt:=newTree_g 2 tk.at_ tk.s [] [] rfl
  refine GC.enter Tryz.func234 Tryz.ntmps234 rfl (by simp only [gframe,grep,Nat.reduceSub];rfl) ?_
  refine w_grun ?_
  refine w_gcall [0] (ht) ?_
  refine w_grun ?_
  refine w_gcall [0] (hdp) ?_
  refine w_grun ?_
  refine w_gcall [0] (h1) ?_
  refine w_grun ?_
  refine w_gcall [0] (h2) ?_
  refine w_grun ?_
  refine w_gcall [0] (h3) ?_
  refine w_grun ?_
  refine w_gcall [0] (h4) ?_
  refine w_grun ?_
  refine w_gcall [0] (hn) ?_
  refine w_grun ?_
  refine w_gcall [] (hnt) ?_
  refine w_grun ?_
  refine w_gret ?_
  exact ⟨rfl,rfl⟩
 case pos =>
 rw [if_pos hcn] at h
 have hcn':((nameS p).code != 0)=false:=by simpa using hcn
 generalize nameS p=p1 at *
 generalize tok p 0=tk at *
 have h5:=is_i p1 0 [91] x hpn (by decide)
 have hp1l:=hpn.2
 have hp1i:=hpn.1
 cases hs5:is p1 0 [91] with
 | true =>
  rw [hs5] at h5
  rw [if_pos hs5] at h
  have hlt:p1.i < p1.l.length:=is_lt (k:=0) hs5
  have hpnn:=(to_next hlt).ok hpn
  cases hb:iE f (.expr (d+1)) p1.next with
  | none=>rw [hb] at h;cases h
  | some r =>
   obtain ⟨b,p2⟩:=r
   rw [hb] at h
   cases h
   have hp2:=((iE_to f).1 _ _ _ _ hpnn hb).ok hpnn
   have hop:=C.expr (d+1) p1.next b p2 x hpnn (by omega) hb
   have hw:=want_i p2 [93] x hp2
   have hnt:=newTree_g 3 tk.at_ tk.s [b] [[qT b]] (pTs_map _)
   refine GC.enter Tryz.func234 Tryz.ntmps234 rfl (by simp only [gframe,grep,Nat.reduceSub];rfl) ?_
   refine w_grun ?_
   refine w_gcall [0] (ht) ?_
   refine w_grun ?_
   refine w_gcall [0] (hdp) ?_
   refine w_grun ?_
   refine w_gcall [0] (h1) ?_
   refine w_grun ?_
   refine w_gcall [0] (h2) ?_
   refine w_grun ?_
   refine w_gcall [0] (h3) ?_
   refine w_grun ?_
   refine w_gcall [0] (h4) ?_
   refine w_grun ?_
   refine w_gcall [0] (hn) ?_
   refine w_grun ?_
   refine w_gcall [0] (h5) ?_
   refine w_grun ?_
   refine w_gcall [0] (hop) ?_
   refine w_grun ?_
   refine w_gmk ?_
   refine w_grun ?_
   refine w_gcall [0] (hw) ?_
   refine w_grun ?_
   refine w_gmk ?_
   refine w_grun ?_
   refine w_gcall [] (hnt) ?_
   refine w_grun ?_
   refine w_gret ?_
   exact ⟨rfl,rfl⟩
 | false =>
 rw [hs5] at h5
 rw [if_neg (by rw [hs5];decide)] at h
 have h6:=is_i p1 0 [40] x hpn (by decide)
 cases hs6:is p1 0 [40] with
 | true =>
  rw [hs6] at h6
  rw [if_pos hs6] at h
  have hlt:p1.i < p1.l.length:=is_lt (k:=0) hs6
  have hpnn:=(to_next hlt).ok hpn
  cases hb:iA f (d+1) [] p1.next with
  | none=>rw [hb] at h;cases h
  | some r =>
   obtain ⟨b,p2⟩:=r
   rw [hb] at h
   cases h
   have hop:=C.exprs (d+1) p1.next b _ x hpnn (by omega) hb
   have hnt:=newTree_g 4 tk.at_ tk.s b (pTs b) rfl
   refine GC.enter Tryz.func234 Tryz.ntmps234 rfl (by simp only [gframe,grep,Nat.reduceSub];rfl) ?_
   refine w_grun ?_
   refine w_gcall [0] (ht) ?_
   refine w_grun ?_
   refine w_gcall [0] (hdp) ?_
   refine w_grun ?_
   refine w_gcall [0] (h1) ?_
   refine w_grun ?_
   refine w_gcall [0] (h2) ?_
   refine w_grun ?_
   refine w_gcall [0] (h3) ?_
   refine w_grun ?_
   refine w_gcall [0] (h4) ?_
   refine w_grun ?_
   refine w_gcall [0] (hn) ?_
   refine w_grun ?_
   refine w_gcall [0] (h5) ?_
   refine w_grun ?_
   refine w_gcall [0] (h6) ?_
   refine w_grun ?_
   refine GW.draw (.q 0 (.q 1 (.q 2 (.q 3 (.q 4 (.q 5 (.a 6 (.a 7 (.q 8 .nil))))))))) (by kernel_rfl) (by kernel_rfl) ?_
   refine w_gorun ?_
   refine w_gocall [0] (hop) ?_
   refine w_gorun ?_
   refine w_gocall [] (hnt) ?_
   refine w_gorun ?_
   refine w_grun ?_
   refine w_gret ?_
   exact ⟨rfl,rfl⟩
 | false =>
  rw [hs6] at h6
  rw [if_neg (by rw [hs6];decide)] at h
  cases h
  have hnt:=newTree_g 2 tk.at_ tk.s [] [] rfl
  refine GC.enter Tryz.func234 Tryz.ntmps234 rfl (by simp only [gframe,grep,Nat.reduceSub];rfl) ?_
  refine w_grun ?_
  refine w_gcall [0] (ht) ?_
  refine w_grun ?_
  refine w_gcall [0] (hdp) ?_
  refine w_grun ?_
  refine w_gcall [0] (h1) ?_
  refine w_grun ?_
  refine w_gcall [0] (h2) ?_
  refine w_grun ?_
  refine w_gcall [0] (h3) ?_
  refine w_grun ?_
  refine w_gcall [0] (h4) ?_
  refine w_grun ?_
  refine w_gcall [0] (hn) ?_
  refine w_grun ?_
  refine w_gcall [0] (h5) ?_
  refine w_grun ?_
  refine w_gcall [0] (h6) ?_
  refine w_grun ?_
  refine w_gcall [] (hnt) ?_
  refine w_grun ?_
  refine w_gret ?_
  exact ⟨rfl,rfl⟩
theorem ies (f:Nat):Ies f:=by
 induction f using Nat.strongRecOn with
 | _ f ih =>
  cases f with
  | zero=>exact ⟨fun d p t q x _ _ h=>by simp [iE] at h,fun k d p t q x _ _ _ h=>by simp [iE] at h,fun d p t q x _ _ h=>by simp [iE] at h,fun d p l q x _ _ h=>by simp [iA] at h⟩
  | succ f =>
   have C:=ih f (Nat.lt_succ_self f)
   have Cs:∀ f',f'≤f→Ies f':=fun f' h=>ih f' (Nat.lt_succ_of_le h)
   exact ⟨fun d p t q x hp hd h=>expr_i C d p t q x hp hd h,fun k d p t q x hp hk hd h=>level_i Cs k d p t q x hp hk hd h,fun d p t q x hp hd h=>operand_i C d p t q x hp hd h,fun d p l q x hp hd h=>exprs_i Cs d p l q x hp hd h⟩
end Go.Xg
namespace Go.Im
open Go.Xp Go.Sp
def siml (f d:Nat) (p:RS):Option (T × RS) :=
 if (tok p 0).kind=2∧is p 1 [61]=true then match iE f (.expr (d+1)) (want (nameS p) [61]) with
  | none=>none
  | some (e,q)=>some (one 7 (tok p 0).at_ (tok p 0).s [e],want q [59])
 else match iE f (.expr (d+1)) p with
  | none=>none
  | some (e,q) =>
   if putC p q e then match e.kids,iE f (.expr (d+1)) (want q [61]) with
    | a::_,some (v,q)=>some (one 8 (tok p 0).at_ e.n.s [a,v],want q [59])
    | _,_=>none
   else some (one 12 (tok p 0).at_ [] [e],want q [59])
end Go.Im
namespace Go.Xg
open Go.RowKit Go.Xw Go.Proofs
open Go.Xp (Tok Nd T signOf one levels kwVar kwIf kwElse kwWhile kwReturn Job)
open Go.Sp Go.Im
attribute [local irreducible] GW GL GO YG GC GA gthn ginb
theorem simple_i {f:Nat} (d:Nat) (p:RS) (t:T) (q:RS) (x:PX) (hp:p.ok) (hd:d+1+f≤1099511627776) (h:siml f d p=some (t,q)) :
  GF Tryz.prog 217 [.loc 0 0,.v (ii (d:Nat))] [encPR p x] (qT t) [encPR q x]:=by
 unfold siml at h
 have C:=ies f
 have ht:=tok_g p 0 x hp (by decide)
 have hi:=is_i p 1 [61] x hp (by decide)
 have main:∀ kk,((tok p 0).kind==2)=kk→(kk=true→is p 1 [61]=false)→GF Tryz.prog 217 [.loc 0 0,.v (ii (d:Nat))] [encPR p x] (qT t) [encPR q x]:=by
  intro kk hk hk2
  rw [if_neg (fun hh=>by
   have h1:kk=true:=by rw [←hk];simpa using hh.1
   have h2:=hk2 h1
   rw [hh.2] at h2;cases h2)] at h
  cases he:iE f (.expr (d+1)) p with
  | none=>rw [he] at h;cases h
  | some r =>
   obtain ⟨e,q1⟩:=r
   rw [he] at h
   simp only at h
   have hq1:=((iE_to f).1 _ _ _ _ hp he).ok hp
   have hq1i:=hq1.1
   have hq1l:=hq1.2
   have hex:=C.expr (d+1) p e q1 x hp (by omega) he
   have hiq:=is_i q1 0 [61] x hq1 (by decide)
   have hadv:e.n.kind=3→q1.code=0→∃ tk',q1.l[q1.i - 1]?=some tk'∧lastS q1=tk'.s∧1≤q1.i:=by
    intro _ hc
    have h1:=iE_adv f _ _ _ _ hp he hc (fun k d out h=>by cases h)
    have h2:=hq1.1
    have hlt:q1.i - 1 < q1.l.length:=by omega
    exact ⟨q1.l[q1.i - 1],by simp [hlt],by unfold lastS;simp [hlt],by omega⟩
   by_cases hput:putC p q1 e
   ·rw [if_pos hput] at h
    have hput':=hput
    obtain ⟨s1,s2,s3,s4,s5,s6⟩:=hput'
    obtain ⟨tk',a1,a2,a3⟩:=hadv s1 s2
    have hkk:kk=true:=by rw [←hk];simpa using s5
    subst hkk
    have hi1:=hk2 rfl
    rw [hi1] at hi
    rw [s6] at hiq
    match hks:e.kids,hv:iE f (.expr (d+1)) (want q1 [61]),h with
    | a::rk,some (v,q2),h =>
     cases h
     have hpw:=(to_want hq1 [61]).ok hq1
     have hq2:=((iE_to f).1 _ _ _ _ hpw hv).ok hpw
     have hw:=want_i q1 [61] x hq1
     have hex2:=C.expr (d+1) _ v q2 x hpw (by omega) hv
     have hw2:=want_i q2 [59] x hq2
     have hr:=row_tok a1
     have hr2:(pTs e.kids)[0]?=some [qT a]:=row_pT (by rw [hks];rfl)
     have hr3:(pTs (a::rk))[0]?=some [qT a]:=row_pT rfl
     have b1:(e.n.kind==3)=true:=by simpa using s1
     have b2:(q1.code==0)=true:=by simpa using s2
     have b3:(tk'.s==[93])=true:=by rw [←a2];simpa using s3
     have b4:(e.n.at_==(tok p 0).at_)=true:=by simpa using s4
     have hnt:=newTree_g 8 (tok p 0).at_ e.n.s [a,v] [[qT a],[qT v]] (pTs_map _)
     generalize tok p 0=tk at *
     refine GC.enter Tryz.func217 Tryz.ntmps217 rfl (by simp only [gframe,grep,Nat.reduceSub];rfl) ?_
     refine w_grun ?_
     refine w_gcall [0] (ht) ?_
     refine w_grun ?_
     refine w_gcall [0] (hi) ?_
     refine w_grun ?_
     refine w_gcall [0] (hex) ?_
     refine w_grun ?_
     refine GW.draw (.q 0 (.q 1 (.q 2 (.q 3 (.q 4 (.q 5 (.q 6 (.q 7 (.q 8 (.q 9 (.q 10 (.q 11 (.q 12 (.q 13 (.q 14 (.q 15 (.q 16 (.q 17 (.q 18 (.q 19 (.q 20 (.q 21 (.q 22 (.q 23 (.q 24 (.q 25 (.q 26 (.q 27 (.q 28 (.q 29 (.q 30 (.q 31 (.q 32 (.q 33 (.q 34 (.q 35 (.q 36 (.q 37 (.q 38 (.q 39 (.q 40 (.q 41 (.q 42 (.q 43 (.q 44 (.a 45 (.q 46 .nil))))))))))))))))))))))))))))))))))))))))))))))) (by kernel_rfl) (by kernel_rfl) ?_
     refine w_gorun ?_
     refine w_gotcall [0] (hiq) ?_
     refine w_gorun ?_
     refine w_grun ?_
     refine w_gmk ?_
     refine w_grun ?_
     refine w_gcall [0] (hw) ?_
     refine w_grun ?_
     refine w_gcall [0] (hex2) ?_
     refine w_grun ?_
     refine w_gmk ?_
     refine w_grun ?_
     refine w_gcall [0] (hw2) ?_
     refine w_grun ?_
     refine GW.draw (.q 0 (.q 1 (.q 2 (.q 3 (.q 4 (.q 5 (.q 6 (.q 7 (.q 8 (.q 9 (.q 10 (.q 11 (.q 12 (.q 13 (.a 14 (.a 15 (.q 16 .nil))))))))))))))))) (by kernel_rfl) (by kernel_rfl) ?_
     refine w_gorun ?_
     refine w_gomk ?_
     refine w_gorun ?_
     refine w_gocall [] (hnt) ?_
     refine w_gorun ?_
     refine w_grun ?_
     refine w_gret ?_
     exact ⟨rfl,rfl⟩
    | [],_,h=>simp at h
    | _::_,none,h=>simp at h
   ·rw [if_neg hput] at h
    cases h
    have hw:=want_i q1 [59] x hq1
    have hnt:=newTree_g 12 (tok p 0).at_ [] [e] [[qT e]] (pTs_map _)
    cases kk with
    | true =>
     have hi1:=hk2 rfl
     rw [hi1] at hi
     refine GC.enter Tryz.func217 Tryz.ntmps217 rfl (by simp only [gframe,grep,Nat.reduceSub];rfl) ?_
     refine w_grun ?_
     refine w_gcall [0] (ht) ?_
     refine w_grun ?_
     refine w_gcall [0] (hi) ?_
     refine w_grun ?_
     refine w_gcall [0] (hex) ?_
     refine w_grun ?_
     refine GW.join (fun fr Γ=>fr=[.loc 0 0,.v (ii (d:Nat)),.any,.any,.any,.loc 1 0,.any,.any,qT e,.any,.any,.any,.any,.any,.any,.any,.any,.any,.any,.any,.any,.any,.any,.any,.any,.any,.any,.any,.any,.any,.any,.any,.any,.any,.any,.any,.any,.any,.any,.any,.any,.any,.any,.any,.any,.any,.any,.any,.any,.any,.any,.any,.any,.any,.any,.any,.any,.any,.any,.any,.any,.any,.any,.any,.any,.any,.any,.any,.any,.any,.any,.any,.any,.any,.any,.any,.any,.any,.any,.any,.any,.any,.any,.any,.any,.any,.any,.v (.bool false),.any,.any,.any,.any,.any,.any,.any,.any,.any,.any,.any,.any,.any,.any,.any,.any,.any,.any,.any,.any,.any,.any,.any,.any,.any,.any,.any,.any,.any,.any,.any,.any,.any,.any]∧Γ=[encPR q1 x,.box 148 (encTok (tok p 0))]) ?_ ?_
     ·by_cases s1:e.n.kind=3
      ·have b1:(e.n.kind==3)=true:=by simpa using s1
       by_cases s2:q1.code=0
       ·have b2:(q1.code==0)=true:=by simpa using s2
        obtain ⟨tk',a1,a2,a3⟩:=hadv s1 s2
        have hr:=row_tok a1
        by_cases s3:lastS q1=[93]
        ·have b3:(tk'.s==[93])=true:=by rw [←a2];simpa using s3
         by_cases s4:e.n.at_=(tok p 0).at_
         ·have b4:(e.n.at_==(tok p 0).at_)=true:=by simpa using s4
          have s6:is q1 0 [61]=false:=by
           cases h6:is q1 0 [61] with
           | false=>rfl
           | true=>exact absurd ⟨s1,s2,s3,s4,by simpa using hk,h6⟩ hput
          rw [s6] at hiq
          generalize tok p 0=tk at *
          refine GW.draw (.q 0 (.q 1 (.q 2 (.q 3 (.q 4 (.q 5 (.q 6 (.q 7 (.q 8 (.q 9 (.q 10 (.q 11 (.q 12 (.q 13 (.q 14 (.q 15 (.q 16 (.q 17 (.q 18 (.q 19 (.q 20 (.q 21 (.q 22 (.q 23 (.q 24 (.q 25 (.q 26 (.q 27 (.q 28 (.q 29 (.q 30 (.q 31 (.q 32 (.q 33 (.q 34 (.q 35 (.q 36 (.q 37 (.q 38 (.q 39 (.q 40 (.q 41 (.q 42 (.q 43 (.q 44 (.a 45 (.q 46 .nil))))))))))))))))))))))))))))))))))))))))))))))) (by kernel_rfl) (by kernel_rfl) ?_
          refine w_gorun ?_
          refine w_gotcall [0] (hiq) ?_
          refine w_gorun ?_
          refine w_grun ?_
          exact ⟨_,_,Wk.frm w_wkf,rfl,rfl⟩
         ·have b4:(e.n.at_==(tok p 0).at_)=false:=by simpa using s4
          generalize tok p 0=tk at *
          refine GW.draw (.q 0 (.q 1 (.q 2 (.q 3 (.q 4 (.q 5 (.q 6 (.q 7 (.q 8 (.q 9 (.q 10 (.q 11 (.q 12 (.q 13 (.q 14 (.q 15 (.q 16 (.q 17 (.q 18 (.q 19 (.q 20 (.q 21 (.q 22 (.q 23 (.q 24 (.q 25 (.q 26 (.q 27 (.q 28 (.q 29 (.q 30 (.q 31 (.q 32 (.q 33 (.q 34 (.q 35 (.q 36 (.q 37 (.q 38 (.q 39 (.q 40 (.q 41 (.q 42 (.q 43 (.q 44 (.a 45 (.q 46 .nil))))))))))))))))))))))))))))))))))))))))))))))) (by kernel_rfl) (by kernel_rfl) ?_
          refine w_gorun ?_
          refine w_grun ?_
          exact ⟨_,_,Wk.frm w_wkf,rfl,rfl⟩
        ·have b3:(tk'.s==[93])=false:=by rw [←a2];simpa using s3
         generalize tok p 0=tk at *
         refine GW.draw (.q 0 (.q 1 (.q 2 (.q 3 (.q 4 (.q 5 (.q 6 (.q 7 (.q 8 (.q 9 (.q 10 (.q 11 (.q 12 (.q 13 (.q 14 (.q 15 (.q 16 (.q 17 (.q 18 (.q 19 (.q 20 (.q 21 (.q 22 (.q 23 (.q 24 (.q 25 (.q 26 (.q 27 (.q 28 (.q 29 (.q 30 (.q 31 (.q 32 (.q 33 (.q 34 (.q 35 (.q 36 (.q 37 (.q 38 (.q 39 (.q 40 (.q 41 (.q 42 (.q 43 (.q 44 (.a 45 (.q 46 .nil))))))))))))))))))))))))))))))))))))))))))))))) (by kernel_rfl) (by kernel_rfl) ?_
         refine w_gorun ?_
         refine w_grun ?_
         exact ⟨_,_,Wk.frm w_wkf,rfl,rfl⟩
       ·have b2:(q1.code==0)=false:=by simpa using s2
        generalize tok p 0=tk at *
        refine GW.draw (.q 0 (.q 1 (.q 2 (.q 3 (.q 4 (.q 5 (.q 6 (.q 7 (.q 8 (.q 9 (.q 10 (.q 11 (.q 12 (.q 13 (.q 14 (.q 15 (.q 16 (.q 17 (.q 18 (.q 19 (.q 20 (.q 21 (.q 22 (.q 23 (.q 24 (.q 25 (.q 26 (.q 27 (.q 28 (.q 29 (.q 30 (.q 31 (.q 32 (.q 33 (.q 34 (.q 35 (.q 36 (.q 37 (.q 38 (.q 39 (.q 40 (.q 41 (.q 42 (.q 43 (.q 44 (.a 45 (.q 46 .nil))))))))))))))))))))))))))))))))))))))))))))))) (by kernel_rfl) (by kernel_rfl) ?_
        refine w_gorun ?_
        refine w_grun ?_
        exact ⟨_,_,Wk.frm w_wkf,rfl,rfl⟩
      ·have b1:(e.n.kind==3)=false:=by simpa using s1
       generalize tok p 0=tk at *
       refine GW.draw (.q 0 (.q 1 (.q 2 (.q 3 (.q 4 (.q 5 (.q 6 (.q 7 (.q 8 (.q 9 (.q 10 (.q 11 (.q 12 (.q 13 (.q 14 (.q 15 (.q 16 (.q 17 (.q 18 (.q 19 (.q 20 (.q 21 (.q 22 (.q 23 (.q 24 (.q 25 (.q 26 (.q 27 (.q 28 (.q 29 (.q 30 (.q 31 (.q 32 (.q 33 (.q 34 (.q 35 (.q 36 (.q 37 (.q 38 (.q 39 (.q 40 (.q 41 (.q 42 (.q 43 (.q 44 (.a 45 (.q 46 .nil))))))))))))))))))))))))))))))))))))))))))))))) (by kernel_rfl) (by kernel_rfl) ?_
       refine w_gorun ?_
       refine w_grun ?_
       exact ⟨_,_,Wk.frm w_wkf,rfl,rfl⟩
     ·rintro _ _ ⟨rfl,rfl⟩
      generalize tok p 0=tk at *
      refine w_grun ?_
      refine w_gmk ?_
      refine w_grun ?_
      refine w_gcall [0] (hw) ?_
      refine w_grun ?_
      refine w_gmk ?_
      refine w_grun ?_
      refine w_gcall [] (hnt) ?_
      refine w_grun ?_
      refine w_gret ?_
      exact ⟨rfl,rfl⟩
    | false =>
     refine GC.enter Tryz.func217 Tryz.ntmps217 rfl (by simp only [gframe,grep,Nat.reduceSub];rfl) ?_
     refine w_grun ?_
     refine w_gcall [0] (ht) ?_
     refine w_grun ?_
     refine w_gcall [0] (hex) ?_
     refine w_grun ?_
     refine GW.join (fun fr Γ=>fr=[.loc 0 0,.v (ii (d:Nat)),.any,.any,.any,.loc 1 0,.any,.any,qT e,.any,.any,.any,.any,.any,.any,.any,.any,.any,.any,.any,.any,.any,.any,.any,.any,.any,.any,.any,.any,.any,.any,.any,.any,.any,.any,.any,.any,.any,.any,.any,.any,.any,.any,.any,.any,.any,.any,.any,.any,.any,.any,.any,.any,.any,.any,.any,.any,.any,.any,.any,.any,.any,.any,.any,.any,.any,.any,.any,.any,.any,.any,.any,.any,.any,.any,.any,.any,.any,.any,.any,.any,.any,.any,.any,.any,.any,.any,.v (.bool false),.any,.any,.any,.any,.any,.any,.any,.any,.any,.any,.any,.any,.any,.any,.any,.any,.any,.any,.any,.any,.any,.any,.any,.any,.any,.any,.any,.any,.any,.any,.any,.any,.any,.any]∧Γ=[encPR q1 x,.box 148 (encTok (tok p 0))]) ?_ ?_
     ·by_cases s1:e.n.kind=3
      ·have b1:(e.n.kind==3)=true:=by simpa using s1
       by_cases s2:q1.code=0
       ·have b2:(q1.code==0)=true:=by simpa using s2
        obtain ⟨tk',a1,a2,a3⟩:=hadv s1 s2
        have hr:=row_tok a1
        by_cases s3:lastS q1=[93]
        ·have b3:(tk'.s==[93])=true:=by rw [←a2];simpa using s3
         by_cases s4:e.n.at_=(tok p 0).at_
         ·have b4:(e.n.at_==(tok p 0).at_)=true:=by simpa using s4
          generalize tok p 0=tk at *
          refine GW.draw (.q 0 (.q 1 (.q 2 (.q 3 (.q 4 (.q 5 (.q 6 (.q 7 (.q 8 (.q 9 (.q 10 (.q 11 (.q 12 (.q 13 (.q 14 (.q 15 (.q 16 (.q 17 (.q 18 (.q 19 (.q 20 (.q 21 (.q 22 (.q 23 (.q 24 (.q 25 (.q 26 (.q 27 (.q 28 (.q 29 (.q 30 (.q 31 (.q 32 (.q 33 (.q 34 (.q 35 (.q 36 (.q 37 (.q 38 (.q 39 (.q 40 (.q 41 (.q 42 (.q 43 (.q 44 (.a 45 (.q 46 .nil))))))))))))))))))))))))))))))))))))))))))))))) (by kernel_rfl) (by kernel_rfl) ?_
          refine w_gorun ?_
          refine w_grun ?_
          exact ⟨_,_,Wk.frm w_wkf,rfl,rfl⟩
         ·have b4:(e.n.at_==(tok p 0).at_)=false:=by simpa using s4
          generalize tok p 0=tk at *
          refine GW.draw (.q 0 (.q 1 (.q 2 (.q 3 (.q 4 (.q 5 (.q 6 (.q 7 (.q 8 (.q 9 (.q 10 (.q 11 (.q 12 (.q 13 (.q 14 (.q 15 (.q 16 (.q 17 (.q 18 (.q 19 (.q 20 (.q 21 (.q 22 (.q 23 (.q 24 (.q 25 (.q 26 (.q 27 (.q 28 (.q 29 (.q 30 (.q 31 (.q 32 (.q 33 (.q 34 (.q 35 (.q 36 (.q 37 (.q 38 (.q 39 (.q 40 (.q 41 (.q 42 (.q 43 (.q 44 (.a 45 (.q 46 .nil))))))))))))))))))))))))))))))))))))))))))))))) (by kernel_rfl) (by kernel_rfl) ?_
          refine w_gorun ?_
          refine w_grun ?_
          exact ⟨_,_,Wk.frm w_wkf,rfl,rfl⟩
        ·have b3:(tk'.s==[93])=false:=by rw [←a2];simpa using s3
         generalize tok p 0=tk at *
         refine GW.draw (.q 0 (.q 1 (.q 2 (.q 3 (.q 4 (.q 5 (.q 6 (.q 7 (.q 8 (.q 9 (.q 10 (.q 11 (.q 12 (.q 13 (.q 14 (.q 15 (.q 16 (.q 17 (.q 18 (.q 19 (.q 20 (.q 21 (.q 22 (.q 23 (.q 24 (.q 25 (.q 26 (.q 27 (.q 28 (.q 29 (.q 30 (.q 31 (.q 32 (.q 33 (.q 34 (.q 35 (.q 36 (.q 37 (.q 38 (.q 39 (.q 40 (.q 41 (.q 42 (.q 43 (.q 44 (.a 45 (.q 46 .nil))))))))))))))))))))))))))))))))))))))))))))))) (by kernel_rfl) (by kernel_rfl) ?_
         refine w_gorun ?_
         refine w_grun ?_
         exact ⟨_,_,Wk.frm w_wkf,rfl,rfl⟩
       ·have b2:(q1.code==0)=false:=by simpa using s2
        generalize tok p 0=tk at *
        refine GW.draw (.q 0 (.q 1 (.q 2 (.q 3 (.q 4 (.q 5 (.q 6 (.q 7 (.q 8 (.q 9 (.q 10 (.q 11 (.q 12 (.q 13 (.q 14 (.q 15 (.q 16 (.q 17 (.q 18 (.q 19 (.q 20 (.q 21 (.q 22 (.q 23 (.q 24 (.q 25 (.q 26 (.q 27 (.q 28 (.q 29 (.q 30 (.q 31 (.q 32 (.q 33 (.q 34 (.q 35 (.q 36 (.q 37 (.q 38 (.q 39 (.q 40 (.q 41 (.q 42 (.q 43 (.q 44 (.a 45 (.q 46 .nil))))))))))))))))))))))))))))))))))))))))))))))) (by kernel_rfl) (by kernel_rfl) ?_
        refine w_gorun ?_
        refine w_grun ?_
        exact ⟨_,_,Wk.frm w_wkf,rfl,rfl⟩
      ·have b1:(e.n.kind==3)=false:=by simpa using s1
       generalize tok p 0=tk at *
       refine GW.draw (.q 0 (.q 1 (.q 2 (.q 3 (.q 4 (.q 5 (.q 6 (.q 7 (.q 8 (.q 9 (.q 10 (.q 11 (.q 12 (.q 13 (.q 14 (.q 15 (.q 16 (.q 17 (.q 18 (.q 19 (.q 20 (.q 21 (.q 22 (.q 23 (.q 24 (.q 25 (.q 26 (.q 27 (.q 28 (.q 29 (.q 30 (.q 31 (.q 32 (.q 33 (.q 34 (.q 35 (.q 36 (.q 37 (.q 38 (.q 39 (.q 40 (.q 41 (.q 42 (.q 43 (.q 44 (.a 45 (.q 46 .nil))))))))))))))))))))))))))))))))))))))))))))))) (by kernel_rfl) (by kernel_rfl) ?_
       refine w_gorun ?_
       refine w_grun ?_
       exact ⟨_,_,Wk.frm w_wkf,rfl,rfl⟩
     ·rintro _ _ ⟨rfl,rfl⟩
      generalize tok p 0=tk at *
      refine w_grun ?_
      refine w_gmk ?_
      refine w_grun ?_
      refine w_gcall [0] (hw) ?_
      refine w_grun ?_
      refine w_gmk ?_
      refine w_grun ?_
      refine w_gcall [] (hnt) ?_
      refine w_grun ?_
      refine w_gret ?_
      exact ⟨rfl,rfl⟩
 by_cases hk:(tok p 0).kind=2
 ·cases hi1:is p 1 [61] with
  | true =>
   clear main
   rw [if_pos ⟨hk,hi1⟩] at h
   rw [hi1] at hi
   have hk':((tok p 0).kind==2)=true:=by simpa using hk
   have hn:=nameS_i p x hp
   have hpn:=(to_nameS hp).ok hp
   have hw:=want_i (nameS p) [61] x hpn
   have hpw:=(to_want hpn [61]).ok hpn
   cases he:iE f (.expr (d+1)) (want (nameS p) [61]) with
   | none=>rw [he] at h;cases h
   | some r =>
    obtain ⟨e,q1⟩:=r
    rw [he] at h
    cases h
    have hq1:=((iE_to f).1 _ _ _ _ hpw he).ok hpw
    have hex:=C.expr (d+1) _ e q1 x hpw (by omega) he
    have hw2:=want_i q1 [59] x hq1
    have hnt:=newTree_g 7 (tok p 0).at_ (tok p 0).s [e] [[qT e]] (pTs_map _)
    generalize tok p 0=tk at *
    refine GC.enter Tryz.func217 Tryz.ntmps217 rfl (by simp only [gframe,grep,Nat.reduceSub];rfl) ?_
    refine w_grun ?_
    refine w_gcall [0] (ht) ?_
    refine w_grun ?_
    refine w_gcall [0] (hi) ?_
    refine w_grun ?_
    refine w_gcall [0] (hn) ?_
    refine w_grun ?_
    refine w_gmk ?_
    refine w_grun ?_
    refine w_gcall [0] (hw) ?_
    refine w_grun ?_
    refine w_gcall [0] (hex) ?_
    refine w_grun ?_
    refine w_gmk ?_
    refine w_grun ?_
    refine w_gcall [0] (hw2) ?_
    refine w_grun ?_
    refine w_gmk ?_
    refine w_grun ?_
    refine w_gcall [] (hnt) ?_
    refine w_grun ?_
    refine w_gret ?_
    exact ⟨rfl,rfl⟩
  | false=>exact main true (by simpa using hk) (fun _=>hi1)
 ·exact main false (by simpa using hk) (fun h=>by cases h)
end Go.Xg
