/- Part 7 of proofs that are told in their last texts. -/
import Derived.Test.YtbfmholmeiegoaaGreatDoorQ4
import Derived.ProofKit
import Derived.Below
import Derived.ChangeSame
import Derived.Test.YtbfmholmeiegoaaGreatDoorQ5
import Derived.Lib.Builder
import Derived.Lib.UnsafeStr
import Derived.Shelf.Strings.Builder1
import Derived.Shelf.Strings.Builder2
import Derived.Shelf.Small.Strs
import Derived.Shelf.Strings.BuilderF
import Derived.Shelf.Strconv.Itoa0
import Derived.Shelf.Strconv.Itoa1
import Derived.Shelf.LaysM
import Derived.Shelf.Strconv.Itoa2
import Derived.Shelf.Strconv.Itoa3
import Derived.Shelf.Strings.Search1
import Derived.Shelf.Strings.Search2
import Derived.Shelf.Strings.Search3
import Derived.Shelf.Strings.Shaped
import Derived.Shelf.Sort.Plain
import Derived.Shelf.Strings.Prefix
import Derived.Shelf.Strings.Fields
import Derived.Shelf.Strings.SplitShaped
import Derived.Shelf.Unicode.Latin
import Derived.Shelf.Unicode.Is16White
import Derived.Shelf.Unicode.IsSpaceAny
import Derived.Shelf.Unicode.Is16Any
import Derived.Shelf.Unicode.Is32Any
import Derived.Shelf.Unicode.ExclAny
import Derived.Ground.Names2Prog
import Derived.Shelf.Slices.CompactI
import Derived.Shelf.Slices.In.SortNone
import Derived.Test.YtbfmholmeiegoaaGreatDoorProg
import Derived.Test.YtbfmholmeiegoaaGreatDoorQ1
import Derived.Test.YtbfmholmeiegoaaGreatDoorQ2
import Derived.Test.YtbfmholmeiegoaaGreatDoorQ6
import Derived.Laws.StructEq
open List (ext_getElem getD_cons_succ getD_cons_zero getElem?_mapIdx getElem_mem length_cons length_nil map_nil mem_singleton sum_cons)
set_option linter.unusedVariables false
set_option linter.unusedSimpArgs false
set_option maxRecDepth 100000
namespace Go.Xw
open Go.RowKit Go.WideShapes Go.ChangeShapes
section
variable {H:Type} {enc:TypeId × Value->H} {P:Program}
theorem Ez {f:Func} {s:ChangeSpec} {apart fresh handsOn again:Bool} {W W':World} {args:Array Value} {v:Value} {ds gs:List (DataW H)} {before pa pv:List MemPlace}
  (hW:DataW.Whole enc P f.params.toList s.vars apart W args.toList ds gs before)
  (UG:∀ (b:Nat) (sp:Nat->Bool) (hd:Bool),DataW.TrodAll enc P W' b sp hd f.resultTypes.toList (v.resultList f.resultTypes.size) (s.fn H (ds++gs)).results [])
  (Bw:∀ sp:Nat->Bool,(∀ p∈before,sp p.block=true)->DataW.TrodAll enc P W' 0 sp true f.params.toList args.toList (s.fn H (ds++gs)).args pa)
  (Q8:∀ sp:Nat->Bool,(∀ p∈before,sp p.block=true)->DataW.TrodVars enc P W' sp s.vars (s.fn H (ds++gs)).vars pv)
  (DU:before=pa++pv) (hb:Below W.heap.size W W')
  (eW:∀ (j:Nat) (t:TypeId) (r:Value),f.resultTypes[j]?=some t->(v.resultList f.resultTypes.size)[j]?=some r->Value.okWide P W' .any 0 t r) :
  s.post enc P f apart fresh handsOn again W args v W':=by
 have ak:∀ p∈before,p.block < W.heap.size:=fun p hp=>hW.lt p hp
 have hold:∀ p∈before,(fun b=>decide (b < W.heap.size)) p.block=true:=fun p hp=>by simpa using ak p hp
 refine ⟨ds,gs,before,[],pa,pv,hW,UG _ _ _,Bw _ hold,Q8 _ hold,World.keptBut_mono (fun p hp=>⟨hp,?_⟩) (hb.frame (·∈before)),fun _=>?_⟩
 ·rw [DU,List.mem_append] at hp;exact Or.inr hp
 ·obtain ⟨_,_,_,_,_,hz,hn⟩:=hW;refine ⟨eW,_,_,([]++pa)++pv,⟨[]++pa,pv,trodAll_append (Bw _ (fun _ _=>rfl)) (UG _ _ _),Q8 _ (fun _ _=>rfl),rfl,?_,?_⟩,?_⟩
  ·intro b off hp
   have fi:MemPlace.cell b off∈before:=by rw [DU];simpa using hp
   rw [hb.frozen (ak _ fi)];exact hz b off fi
  ·intro ha;have:=hn ha;rw [DU] at this;simpa using this
  ·intro p hp _;rw [DU];simpa using hp
end
end Go.Xw
namespace Go.Xg
open Go.RowKit Go.Xw
class Cz (P:Program) (t:TypeId):Prop where
 und:∃ e j,P.underlying t=some (.pointer e)/\P.info? e=some j
theorem Cz.mk' {P:Program} {t e:TypeId} (h:P.underlying t=some (.pointer e)) (k:(P.info? e).isSome=true):Cz P t:=⟨e,(P.info? e).get k,h,by simp⟩
section
variable {P:Program} {m:Nat} {Q:du} {fr:List GV} {F:List Ob} {ops:Array Oper} {rest:List Oper} {d:Option Tmp} {op:Op} {ty:TypeId} {pos:String} {af:Array Edge}
theorem YG.Bj {x y:Operand} {t t':TypeId} [hT:Cz P t] {i o:Nat} (hx:ba fr x=.loc i o) (hy:ba fr y=.v (.pointer none)):YG P (.binOp .eql t x y t') fr F (.v (.bool false)):=fun B K β w l hI hF=>by
 have h:=hF.ev x;rw [hx] at h;generalize hv:ev l x=v at h
 cases h with
 | loc _ _ b hb =>
  obtain ⟨e,j,L,I⟩:=hT.und
  have hp:P.pointee t=e:=by simp [Program.pointee,L]
  have:=run_eql_pointer_nil (P:=P) w t (some ⟨b,o,none⟩) (by rw [hp];exact L);refine ⟨_,fun d ty pos af=>?_,.v _⟩;simp [execOp,eqGuard,hv,hF.jI hy,this]
theorem YG.B0 {x y:Operand} {t t':TypeId} [hT:Cz P t] {i o:Nat} (hx:ba fr x=.loc i o) (hy:ba fr y=.loc i o):YG P (.binOp .neq t x y t') fr F (.v (.bool false)):=fun B K β w l hI hF=>by
 have h:=hF.ev x;rw [hx] at h;have h':=hF.ev y;rw [hy] at h';generalize hv:ev l x=v at h;generalize BN:ev l y=v' at h'
 cases h with
 | loc _ _ b hb =>
  cases h' with
  | loc _ _ b' bC =>
   rw [hb] at bC;cases bC;obtain ⟨e,j,L,I⟩:=hT.und;have:=Lib.run_neq_ptr_same (P:=P) w ⟨b,o,none⟩ L I;refine ⟨_,fun d ty pos af=>?_,.v _⟩;simp [execOp,eqGuard,hv,BN,this]
theorem Inv.again {B:Bs} {K:Fz} {β:Bt} {F:List Ob} {w w':World} {i E k:Nat} {rows:List (List GV)} {x:Value} {xs:List Value} (h:Inv B K β F w) (hi:F[i]?=some (.vech E k rows x)) (ho:iQ w' 0 E k x rows.length xs) (hr:bh K β xs rows.flatten)
  (hx:Ext (fun b=>x.ownBlock=some b) w w'):Inv B K β F w':=by
 obtain ⟨xs0,L,I,h3,h4,h5⟩:=h.ob i _ hi
 have ft:∀ b,x.ownBlock=some b->(β i).blk=some b:=fun b hb=>by rw [L];exact hb
 refine ⟨h.ext.step hx (fun j hj=>(h.own i j (ft j hj)).symm),h.kle,h.ble,h.loc,h.fz.ext hx (fun b o g hg he=>by rw [h5 b he o] at hg;cases hg),fun j y hj=>?_,h.out,h.dis,h.own,h.kn,h.tab.step hx (fun j hj=>⟨i,ft j hj⟩) (cU.refl K) (fun i b2 h=>.inl ⟨i,h⟩)⟩
 by_cases hji:j=i
 ·subst hji;rw [hi] at hj;cases hj;exact ⟨xs,L,ho,hr,h4,h5⟩
 ·exact (h.ob j y hj).ext hx (fun b hb he=>hji (h.dis j i b hb (ft b he))) (cU.refl K) (dp.refl β) rfl (fun _ _ _ h=>h)
theorem GL.VW {s x:Operand} {t u e:Nat} [hT:Dr P t e] [hU:qo P u] (i:Nat) {n:Nat} {dt:Tmp} {v:Value} {rows:List (List GV)} {str:ae} (hx:ba fr x=.v (sv str)) (hs:ba fr s=.v v) (bG:F[i]?=some (.vech e 1 rows v)) (hn:rows.length=n) (cr:str.isEmpty=false)
  (hb:n+str.length<=140737488355328)
  (h:∀ a c,GL P m ops Q rest (bx fr (some dt) (.v (.slice a (n+str.length) c))) (oset F i (.vech e 1 (rows++cP str) (.slice a (n+str.length) c)))) :
  GL P m ops Q (⟨some dt,.call ⟨.builtin .append,#[s,x],#[t,u]⟩,ty,pos,af,none⟩::rest) fr F:=fun B K β w l hm hI hF=>by
 subst hn
 have cr:str≠[]:=by intro h0;rw [h0] at cr;cases cr
 obtain ⟨xs,o1,o2,o3,o4,o5⟩:=hI.ob i _ bG;have rl:ev l s=v:=hF.jI hs
 have iq:(cP str).flatten=str.map fun c=>GV.v (.int .u8 (c.toNat:Int)):=by
  unfold cP;clear hx cr hb h;generalize str=s
  induction s with
  | nil=>rfl
  | cons c r ih=>simp only [List.map_cons,List.flatten_cons,ih];rfl
 have hlen:(cP str).length=str.length:=by simp [cP]
 refine WL.CA (base:=0) (v:=v) (n:=rows.length) (xs:=xs) (str:=str) rl o2 (hF.jI hx) hb (aM _) ?_;intro v' w' how iw uW vU
 obtain ⟨K',hK,rp,bs⟩:=(hI.Ck bG).grow (fz:=0) (pW bG) o1 ⟨o2,o3⟩ (news:=cP str) (ns:=ly str) (by rw [hlen];exact how) iw uW (by rw [iq];exact (by
   have:(str.map fun c=>GV.v (.int .u8 (c.toNat:Int)))=lQ (ly str):=by simp [lQ,ly]
   rw [this];exact bh.self)) (fun r hr=>by
   simp only [cP,qX] at hr;obtain ⟨c,_,rfl⟩:=hr
   exact ⟨rfl,fun g hg=>by rw [mem_singleton] at hg;subst hg;rfl⟩) (by intro h0;exact cr (List.map_eq_nil_iff.1 h0)) (fun b bC o v ho hv=>by omega)
 rw [<-bf,ox] at bs;obtain ⟨a,c,qw,rb⟩:=bs.Kj (pW bG);rw [ox] at rb;obtain ⟨a',c',rfl⟩:=how.shape;rw [bH] at qw;simp only [aU,hlen] at qw rb rp;cases qw;exact h _ _ B K' _ w' _ hm rb ((hF.mono hK rp).put (some dt) (.v _))
theorem GL.VV {s x:Operand} {t u e:Nat} [hT:Dr P t e] [hU:qo P u] (i:Nat) {rows:List (List GV)} {v:Value} (hx:ba fr x=.v (sv [])) (hs:ba fr s=.v v) (bG:F[i]?=some (.vech e 1 rows v)) (hb:rows.length<=140737488355328)
  (h:GL P m ops Q rest (bx fr d (.v v)) F):GL P m ops Q (⟨d,.call ⟨.builtin .append,#[s,x],#[t,u]⟩,ty,pos,af,none⟩::rest) fr F:=fun B K β w l hm hI hF=>by
 obtain ⟨xs,o1,o2,o3,o4,o5⟩:=hI.ob i _ bG;have rl:=hF.jI hs;have su:=hF.jI hx;obtain ⟨hu,i',hi,hz,dE,yo⟩:=hT.is;have vV:(⟨([]:ae).toArray⟩:ByteArray).size=0:=rfl;obtain ⟨v',w',hr,I,h3,h4⟩:=Lib.run_append_own_string (P:=P) w 0 t u ty e i' hu hU.und hi hz dE yo v rows.length xs o2 ⟨([]:ae).toArray⟩ (by rw [vV];simp only [maxLen];omega) (by rw [vV];omega) (aM _)
 have BN:v'=v:=by
  rcases o2.2 with ⟨rfl,h6⟩ | ⟨g,cap,cur,rfl,pA,hg,rf,zX,fT,BL⟩
  ·exact h4.2 ⟨rfl,rfl⟩
  ·have Uj:cur.size=cap:=by simpa using fT
   have ea:=Lib.run_append_room_string (P:=P) w t u ty e i' hu hU.und hi dE g rows.length cap cur hg ⟨([]:ae).toArray⟩ (by rw [vV];omega) (by unfold maxLen at zX;rw [vV];omega);rw [hr] at ea;cases ea;rfl
 subst BN;have nQ:(Builtin.append_ #[t,u] ty #[v',sv []]).run P w=.ok v' w':=hr;have fT:Lib.strCells ⟨([]:ae).toArray⟩=[]:=rfl;rw [fT,cq] at I;have iw:Ext (fun b=>v'.ownBlock=some b) w w':=⟨h3.os,h3.tape,h3.output,h3.size,fun j hj hn=>h3.block j hj fun he=>hn he.symm⟩;have bs:=hI.again bG I o3 iw;exact WL.val (v:=v') (w':=w') (by simp [execOp,resolve,invoke,builtin,rl,su,nQ]) (h B K β w' _ hm bs (hF.put d (.v _)))
theorem YG.wy {x:Operand} {t:TypeId} (i:Nat) {E n c:Nat} {a:Option Addr} {rows:List (List GV)} (hx:ba fr x=.v (.slice a n c)) (bG:F[i]?=some (.vech E 1 rows (.slice a n c))) (hn:rows.length=n) (hp:Nat.blt 0 n=true) :
  YG P (.call ⟨.builtin .unsafeSliceData,#[x],#[t]⟩) fr F (.vp i n 1 0 0):=fun B K β w l hI hF=>by
 subst hn
 have hp:0 < rows.length:=by simpa using hp
 obtain ⟨xs,L,I,h3,h4,h5⟩:=hI.ob i _ bG;have hv:=hF.jI hx
 rcases I.2 with ⟨h8,h9⟩ | ⟨g,cap,cur,h8,_,hg,rf,_⟩
 ·omega
 ·cases h8
  have hr:=fun ts ty=>Lib.run_unsafeSliceData_row (P:=P) (w:=w) ts ty ⟨g,0,none⟩ rows.length c G
  exact ⟨.pointer (some ⟨g,0,none⟩),fun d ty pos af=>by simp [execOp,resolve,invoke,builtin,hv,hr],.vp i _ 1 0 0 _ ⟨_,_,L,aD _,fun _=>⟨g,rfl,by simp⟩⟩⟩
theorem GL.N7 {x y:Operand} {pt it e:TypeId} (i:Nat) {str:ae} {rows:List (List GV)} {v:Value} (hp:P.underlying pt=some (.pointer e)) (hc:P.cellsOf e=1) (hx:ba fr x=.vp i str.length 1 0 0) (hy:ba fr y=.v (ii str.length)) (bG:F[i]?=some (.vech e 1 rows v)) (mg:rows=cP str)
  (cr:str.isEmpty=false) (hb:str.length<=140737488355328)
  (h:GL P m ops Q rest (bx fr d (.v (sv str))) (oset F i .lost)):GL P m ops Q (⟨d,.call ⟨.builtin .unsafeString,#[x,y],#[pt,it]⟩,ty,pos,af,none⟩::rest) fr F:=fun B K β w l hm hI hF=>by
 have cr:str≠[]:=by intro h0;rw [h0] at cr;cases cr
 subst mg;obtain ⟨xs,o1,o2,o3,o4,o5⟩:=hI.ob i _ bG
 have hlen:(cP str).length=str.length:=by simp [cP]
 have hr:=hF.ev x;rw [hx] at hr;have UO:=hF.jI hy;generalize hv:ev l x=u at hr
 cases hr with
 | vp _ _ _ _ _ _ hh =>
  obtain ⟨h0,mm,e1,e2,e3⟩:=hh;rw [e1] at o1;cases o1;obtain ⟨b,QR,rfl⟩:=e3 hlen
  rcases o2.2 with ⟨h8,h9⟩ | ⟨g,cap,cur,h8,_,hg,rf,zX,fT,BL⟩
  ·rw [hlen] at h9;exact absurd (gJ h9) cr
  ·subst h8;simp only [Value.ownBlock,Option.some.injEq] at QR;subst QR
   have rn:xs=ly str:=by
    have iq:(cP str).flatten=lQ (ly str):=by
     have:(cP str).flatten=str.map fun c=>GV.v (.int .u8 (c.toNat:Int)):=by
      unfold cP;generalize str=s
      induction s with
      | nil=>rfl
      | cons c r ih=>simp only [List.map_cons,List.flatten_cons,ih];rfl
     rw [this];simp [lQ,ly]
    rw [iq] at o3;apply ext_getElem
    ·have:=o3.1;simpa [lQ] using this
    ·intro j L I;have:=o3.2 j xs[j] (.v (ly str)[j]) (by simp [L]) (by simp [lQ,I]);exact Rel.fD this
   have mf:∀ j y,str[j]?=some y->w.cell? ((⟨g,0,none⟩:Addr).add j)=some (.int .u8 y.toNat):=fun j y hy=>by
    have:=World.ownsRow.cells (g:=g) o2 rfl j (.int .u8 y.toNat) (by rw [rn];simp [ly,hy]);exact this
   have aac:(cP str).length<=cur.size:=by rw [fT];omega
   have nQ:=Lib.run_unsafeString_row (P:=P) w pt it ty e hp hc g cur.size (by simp [World.shape?,hg]) str cr G G mf
   have iw:Ext (·=g) w (w.freeze ⟨g,0,none⟩ str.length):=by
    have:=Lib.below_freeze (Below.refl 0 w) (p:=⟨g,0,none⟩) (aM g) str.length
    exact ⟨this.os,this.tape,this.output,this.size,fun k hk hn=>by
     unfold World.freeze;split
     ·rfl
     ·simp only [Array.getElem?_modify]
      rw [M (fun he=>hn he.symm)]⟩
   have ft:(β i).blk=some g:=by rw [e1];rfl
   have bs:Inv B K β (oset F i .lost) (w.freeze ⟨g,0,none⟩ str.length):=by
    refine ⟨hI.ext.step iw (fun j hj=>by subst hj;exact (hI.own i _ ft).symm),hI.kle,hI.ble,hI.loc,hI.fz.ext iw (fun b o g' mu he=>by subst he;rw [o5 _ rfl o] at mu;cases mu),fun j y hj=>?_,fun j hj=>hI.out j (by simpa [bf] using hj),hI.dis,hI.own,hI.kn,hI.tab.step iw (fun j hj=>⟨i,by subst hj;exact ft⟩) (cU.refl K) (fun i b2 h=>.inl ⟨i,h⟩)⟩;rw [bf,dB] at hj;split at hj
    ·rename_i gA;split at hj
     ·cases hj;subst gA
      intro b bC;rw [ft] at bC;cases bC;have:=sy hg;exact xE this iw.size
     ·cases hj
    ·rename_i gA;exact (hI.ob j y hj).ext iw (fun b hb he=>by subst he;exact gA (hI.dis i j _ ft hb)) (cU.refl K) (dp.refl β) rfl (fun _ _ _ h=>h)
   exact WL.val (v:=sv str) (w':=w.freeze ⟨g,0,none⟩ str.length) (by simp [execOp,resolve,invoke,builtin,hv,UO,nQ,sv]) (h B K β _ _ hm bs (hF.put d (.v _)))
theorem Inv.Qy {B:Bs} {K:Fz} {β:Bt} {F:List Ob} {w:World} {x:Bk} {y:Ob} (h:Inv B K β F w) (hd:∀ b,x.blk=some b->(∀ i,(β i).blk≠some b)/\B.w0.heap.size<=b/\(b≠3/\b≠1))
  (ho:la K (fY β F.length x) w F.length y) (hold:dp β (fY β F.length x)):Inv B K (fY β F.length x) (F++[y]) w:=by
 refine ⟨h.ext,h.kle,h.ble.trans hold,h.loc,h.fz,fun i z hi=>?_,fun i hi=>?_,fun i j b hi hj=>?_,fun i b hi=>?_,h.kn,⟨h.tab.le,h.tab.pow,h.tab.spc,fun i b hi=>?_⟩⟩
 ·by_cases sV:i < F.length
  ·rw [ff sV] at hi;exact (h.ob i z hi).ext (S:=ic) (Ext.refl w) (fun _ _ h=>h) (cU.refl K) hold (cH G) (fun _ _ _ h=>h)
  ·have:i=F.length:=by have:=(bp hi).1;simp at this;omega
   subst this;simp at hi;subst hi;exact ho
 ·simp at hi;rw [cH G];exact h.out i G
 ·by_cases L:i=F.length <;> by_cases I:j=F.length
  ·omega
  ·subst L;rw [bH] at hi;rw [cH I] at hj;exact absurd hj ((hd b hi).1 j)
  ·subst I;rw [bH] at hj;rw [cH L] at hi;exact absurd hi ((hd b hj).1 i)
  ·rw [cH L] at hi;rw [cH I] at hj;exact h.dis i j b hi hj
 ·rcases qi hi with L | L
  ·exact .inr (hd b L).2.1
  ·exact h.own i b L
 ·rcases qi hi with L | L
  ·exact (hd b L).2.2
  ·exact h.tab.free i b L
theorem YG.W3 {x lo:Operand} {t e:TypeId} {k:Nat} [hT:nX P t e k] {rows:List (List GV)} {kk:IntKind} {i:Nat} (hx:ba fr x=.sl k rows) (gT:ba fr lo=.v (.int kk i)) (hi:Nat.blt i rows.length=true):YG P (.slice t x (some lo) none none) fr F (.sl k (rows.drop i)):=fun B K β w l hI hF=>by
 have hi:i < rows.length:=by simpa using hi
 have h:=hF.ev x;rw [hx] at h;have II:=hF.jI gT;generalize hv:ev l x=v at h
 cases h with
 | sl0 a c=>simp at hi
 | sl b o c _ _ h hc =>
  refine ⟨.slice (some ⟨b,o+i * k,none⟩) (rows.length - i) (c - i),fun d ty pos af=>?_,?_⟩
  ·have o7:¬ (c=i):=by omega
   have hle:(i:Int)<=(rows.length:Int):=by omega
   simp [execOp,Instr.sliceAt,Instr.slice,Instr.sliceBounds,Instr.sliceBound,asIntOf,hv,II,run_underlying hT.und,jF hT.siz,o7,Nat.le_of_lt hi,qp]
  ·have:=Rel.sl (K:=K) (β:=β) b (o+i * k) (c - i) k (rows.drop i) (fun j r hr=>?_) (by simp;omega)
   ·rw [iK] at this;exact this
   ·rw [List.getElem?_drop] at hr;refine ⟨(h (i+j) r hr).1,fun q g hg=>?_⟩;have:=(h (i+j) r hr).2 q g hg;rw [Nat.add_mul] at this;rw [show o+i * k+j * k+q=o+(i * k+j * k)+q by omega];exact this
theorem YG.yY {x lo:Operand} {t e:TypeId} {k:Nat} [hT:nX P t e k] {rows:List (List GV)} {kk:IntKind} {n:Int} (i:Nat) (hx:ba fr x=.sl k rows) (gT:ba fr lo=.v (.int kk n)) (hn:n=(i:Int)) (hi:Nat.blt i rows.length=true):YG P (.slice t x (some lo) none none) fr F (.sl k (rows.drop i)):=by
 subst hn;exact YG.W3 hx gT hi
end
end Go.Xg
namespace Go.Proofs
open Go.Shelf
theorem fF {α:Type} {a:Option α} {b c:α} (h:a=some b) (k:b=c:=by kernel_rfl):a=some c:=h.trans (congrArg some k)
def Tryz.Ae:Go.Shelf.Ren:=⟨fun | 165=>194 | 240=>238 | 241=>239 | 276=>268 | 277=>269 | n=>n,fun | 70=>202 | 3=>3 | 0=>0 | 4=>4 | 9=>9 | 20=>20 | 72=>204 | 37=>157 | 164=>262 | 5=>5 | n=>n,fun | n=>n⟩
theorem Tryz.Sr:Go.Proofs.Lays.n165 Tryz.prog Tryz.Ae:={
 mixed:=by kernel_rfl
 f165:=fF Tryz.func194
 f240:=fF Tryz.func238
 f241:=fF Tryz.func239
 f276:=fF Tryz.func268
 f277:=fF Tryz.func269
 t0:=Tryz.underlying0
 a0:=Tryz.isAgg0
 z0:=Tryz.sizeOf0
 v0:=Tryz.zeroValue0
 t3:=Tryz.underlying3
 a3:=Tryz.isAgg3
 z3:=Tryz.sizeOf3
 v3:=Tryz.zeroValue3
 t4:=Tryz.underlying4
 a4:=Tryz.isAgg4
 z4:=Tryz.sizeOf4
 v4:=Tryz.zeroValue4
 t9:=Tryz.underlying9
 a9:=Tryz.isAgg9
 z9:=Tryz.sizeOf9
 v9:=Tryz.zeroValue9
 t20:=Tryz.underlying20
 a20:=Tryz.isAgg20
 z20:=Tryz.sizeOf20
 v20:=Tryz.zeroValue20
 t37:=Tryz.underlying157
 a37:=Tryz.isAgg157
 z37:=Tryz.sizeOf157
 v37:=Tryz.zeroValue157
 t70:=Tryz.underlying202
 a70:=Tryz.isAgg202
 z70:=Tryz.sizeOf202
 v70:=Tryz.zeroValue202
 t72:=Tryz.underlying204
 a72:=Tryz.isAgg204
 z72:=Tryz.sizeOf204
 v72:=Tryz.zeroValue204
 t164:=Tryz.underlying262
 a164:=Tryz.isAgg262
 z164:=Tryz.sizeOf262
 v164:=Tryz.zeroValue262 }
theorem Tryz.zM:Builder.Extra Tryz.prog Tryz.Ae:={
 sizeBuilder:=by kernel_rfl
 liesBuilder:=by kernel_rfl
 t5:=Tryz.underlying5
 a5:=Tryz.isAgg5
 z5:=Tryz.sizeOf5
 v5:=Tryz.zeroValue5
 infoByte:=by kernel_rfl
 cellsByte:=by kernel_rfl
 sizeByte:=by kernel_rfl
 neB5:=by decide }
open Go.RowKit in
theorem Tryz.Builder_Grow_fresh (B b n:Nat) (w:World) (hB:B<=b) (ft:w.heap[b]?=some (.cells #[.pointer none,.slice none 0 0] 204 (0,0))) (hBw:B<=w.heap.size) (hn:n<=281474976710656) :
  Calls Tryz.prog 194 #[.pointer (some ⟨b,0,none⟩),.int .i64 n] w fun e w'=>e=.returned (.tuple #[])/\(Lib.BuilderAt 204 5 B b (.pointer (some ⟨b,0,none⟩)) [] w'/\Below B w w'):=Any.Builder_Grow_fresh Tryz.Sr Tryz.zM B b n w hB ft hBw hn
def Tryz.HH:Go.Shelf.Ren:=⟨fun | 137=>164 | 217=>201 | 266=>241 | n=>n,fun | 9=>9 | 5=>5 | 3=>3 | n=>n,fun | n=>n⟩
theorem Tryz.Sn:Go.Proofs.Lays.n137 Tryz.prog Tryz.HH:={
 mixed:=by kernel_rfl
 f137:=fF Tryz.func164
 f217:=fF Tryz.func201
 f266:=fF Tryz.func241
 t3:=Tryz.underlying3
 a3:=Tryz.isAgg3
 z3:=Tryz.sizeOf3
 v3:=Tryz.zeroValue3
 t5:=Tryz.underlying5
 a5:=Tryz.isAgg5
 z5:=Tryz.sizeOf5
 v5:=Tryz.zeroValue5
 t9:=Tryz.underlying9
 a9:=Tryz.isAgg9
 z9:=Tryz.sizeOf9
 v9:=Tryz.zeroValue9 }
open Go.RowKit in
theorem Tryz.strings_IndexByte (s:ByteArray) (c:Int) (w:World) :
  Calls Tryz.prog 164 #[.string s,.int .u8 c] w fun e w'=>e=.returned (.int .i64 (Lib.indexByte s.data.toList c.toNat.toUInt8))/\w'=w:=Any.strings_IndexByte Tryz.Sn s c w
def Tryz.UZ:Go.Shelf.Ren:=⟨fun | 246=>237 | 283=>264 | 284=>265 | 285=>266 | 286=>267 | 129=>221 | 317=>278 | 318=>279 | 319=>280 | 320=>281 | 337=>287 | 338=>288 | n=>n,fun | 2=>2 | 3=>3 | 9=>9 | 4=>4 | 171=>258 | 0=>0 | 53=>231 | 37=>157 | 5=>5 | 173=>260 | 212=>275 | 51=>229 | 20=>20 | 213=>276 | 46=>192 | 232=>293 | 233=>294 | n=>n,fun | 17=>3 | 18=>4 | 19=>5 | n=>n⟩
def Tryz.UY:Go.Shelf.Ren:=⟨fun | 243=>193 | 246=>237 | 283=>264 | 284=>265 | 285=>266 | 286=>267 | 129=>221 | 317=>278 | 318=>279 | 319=>280 | 320=>281 | 337=>287 | 338=>288 | n=>n,fun | 3=>3 | 9=>9 | 2=>2 | 4=>4 | 171=>258 | 0=>0 | 53=>231 | 37=>157 | 5=>5 | 173=>260 | 212=>275 | 51=>229 | 20=>20 | 213=>276 | 46=>192 | 232=>293 | 233=>294 | n=>n,fun | 17=>3 | 18=>4 | 19=>5 | n=>n⟩
def Tryz.F5:Go.Shelf.Ren:=⟨fun | 171=>157 | 243=>193 | 246=>237 | 283=>264 | 284=>265 | 285=>266 | 286=>267 | 129=>221 | 317=>278 | 318=>279 | 319=>280 | 320=>281 | 337=>287 | 338=>288 | n=>n,fun | 3=>3 | 9=>9 | 2=>2 | 4=>4 | 171=>258 | 0=>0 | 53=>231 | 37=>157 | 5=>5 | 173=>260 | 212=>275 | 51=>229 | 20=>20 | 213=>276 | 46=>192 | 232=>293 | 233=>294 | n=>n,fun | 17=>3 | 18=>4 | 19=>5 | n=>n⟩
theorem Tryz.PC:Go.Proofs.LaysM.n171 Tryz.prog Tryz.F5:={
 mixed:=by kernel_rfl
 f129:=fF Tryz.func221
 f171:=fF Tryz.func157
 f243:=fF Tryz.func193
 f246:=fF Tryz.func237
 f283:=fF Tryz.func264
 f284:=fF Tryz.func265
 f285:=fF Tryz.func266
 f286:=fF Tryz.func267
 f317:=fF Tryz.func278
 f318:=fF Tryz.func279
 f319:=fF Tryz.func280
 f320:=fF Tryz.func281
 f337:=fF Tryz.func287
 f338:=fF Tryz.func288
 t0:=Tryz.underlying0
 a0:=Tryz.isAgg0
 z0:=Tryz.sizeOf0
 v0:=Tryz.zeroValue0
 t2:=Tryz.underlying2
 a2:=Tryz.isAgg2
 z2:=Tryz.sizeOf2
 v2:=Tryz.zeroValue2
 t3:=Tryz.underlying3
 a3:=Tryz.isAgg3
 z3:=Tryz.sizeOf3
 v3:=Tryz.zeroValue3
 t4:=Tryz.underlying4
 a4:=Tryz.isAgg4
 z4:=Tryz.sizeOf4
 v4:=Tryz.zeroValue4
 t5:=Tryz.underlying5
 a5:=Tryz.isAgg5
 z5:=Tryz.sizeOf5
 v5:=Tryz.zeroValue5
 t9:=Tryz.underlying9
 a9:=Tryz.isAgg9
 z9:=Tryz.sizeOf9
 v9:=Tryz.zeroValue9
 t20:=Tryz.underlying20
 a20:=Tryz.isAgg20
 z20:=Tryz.sizeOf20
 v20:=Tryz.zeroValue20
 t37:=Tryz.underlying157
 a37:=Tryz.isAgg157
 z37:=Tryz.sizeOf157
 v37:=Tryz.zeroValue157
 t46:=Tryz.underlying192
 a46:=Tryz.isAgg192
 z46:=Tryz.sizeOf192
 v46:=Tryz.zeroValue192
 t51:=Tryz.underlying229
 a51:=Tryz.isAgg229
 z51:=Tryz.sizeOf229
 v51:=Tryz.zeroValue229
 t53:=Tryz.underlying231
 a53:=Tryz.isAgg231
 z53:=Tryz.sizeOf231
 v53:=Tryz.zeroValue231
 t171:=Tryz.underlying258
 a171:=Tryz.isAgg258
 z171:=Tryz.sizeOf258
 v171:=Tryz.zeroValue258
 t173:=Tryz.underlying260
 a173:=Tryz.isAgg260
 z173:=Tryz.sizeOf260
 v173:=Tryz.zeroValue260
 t212:=Tryz.underlying275
 a212:=Tryz.isAgg275
 z212:=Tryz.sizeOf275
 v212:=Tryz.zeroValue275
 t213:=Tryz.underlying276
 a213:=Tryz.isAgg276
 z213:=Tryz.sizeOf276
 t232:=Tryz.underlying293
 a232:=Tryz.isAgg293
 z232:=Tryz.sizeOf293
 v232:=Tryz.zeroValue293
 t233:=Tryz.underlying294
 a233:=Tryz.isAgg294
 z233:=Tryz.sizeOf294
 v233:=Tryz.zeroValue294
 g17:=by kernel_rfl
 g18:=by kernel_rfl
 g19:=by kernel_rfl
 i0:=by kernel_rfl
 i2:=by kernel_rfl
 i3:=by kernel_rfl
 i4:=by kernel_rfl
 i5:=by kernel_rfl
 i9:=by kernel_rfl
 i20:=by kernel_rfl
 i37:=by kernel_rfl
 i46:=by kernel_rfl
 i51:=by kernel_rfl
 i53:=by kernel_rfl
 i171:=by kernel_rfl
 i173:=by kernel_rfl
 i212:=by kernel_rfl
 i232:=by kernel_rfl
 i233:=by kernel_rfl
 m17:=by kernel_rfl
 m18:=by kernel_rfl
 m19:=by kernel_rfl }
open Go.RowKit Go.Sort Go.Lib in
theorem Tryz.strconv_Itoa (n:Int) (h0 : -9223372036854775808<=n) (L:n<=9223372036854775807) (w:World) (AM:Lib.TabIs Tryz.prog w "internal/strconv.uint64pow10" .u64 Lib.pow10Tab) :
  Calls Tryz.prog 157 #[.int .i64 n] w fun e w'=>e=.returned (.string ⟨(Lib.itoa n).toArray⟩)/\∃ k os,w'=grow (w.drewN k) os:=Any.strconv_Itoa Tryz.PC n h0 L w AM
def Tryz.VR:Go.Shelf.Ren:=⟨fun | 219=>203 | 217=>201 | 225=>242 | 224=>243 | 267=>244 | 266=>241 | 314=>270 | n=>n,fun | 9=>9 | 3=>3 | 4=>4 | 5=>5 | 46=>192 | 146=>265 | 51=>229 | n=>n,fun | 1=>0 | n=>n⟩
def Tryz.HI:Go.Shelf.Ren:=⟨fun | 143=>166 | 219=>203 | 217=>201 | 225=>242 | 224=>243 | 267=>244 | 266=>241 | 314=>270 | n=>n,fun | 9=>9 | 3=>3 | 4=>4 | 5=>5 | 46=>192 | 146=>265 | 51=>229 | n=>n,fun | 1=>0 | n=>n⟩
theorem Tryz.Sq:Go.Proofs.Lays.n143 Tryz.prog Tryz.HI:={
 mixed:=by kernel_rfl
 f143:=fF Tryz.func166
 f217:=fF Tryz.func201
 f219:=fF Tryz.func203
 f224:=fF Tryz.func243
 f225:=fF Tryz.func242
 f266:=fF Tryz.func241
 f267:=fF Tryz.func244
 f314:=fF Tryz.func270
 t3:=Tryz.underlying3
 a3:=Tryz.isAgg3
 z3:=Tryz.sizeOf3
 v3:=Tryz.zeroValue3
 t4:=Tryz.underlying4
 a4:=Tryz.isAgg4
 z4:=Tryz.sizeOf4
 v4:=Tryz.zeroValue4
 t5:=Tryz.underlying5
 a5:=Tryz.isAgg5
 z5:=Tryz.sizeOf5
 v5:=Tryz.zeroValue5
 t9:=Tryz.underlying9
 a9:=Tryz.isAgg9
 z9:=Tryz.sizeOf9
 v9:=Tryz.zeroValue9
 t46:=Tryz.underlying192
 a46:=Tryz.isAgg192
 z46:=Tryz.sizeOf192
 v46:=Tryz.zeroValue192
 t51:=Tryz.underlying229
 a51:=Tryz.isAgg229
 z51:=Tryz.sizeOf229
 v51:=Tryz.zeroValue229
 t146:=Tryz.underlying265
 a146:=Tryz.isAgg265
 z146:=Tryz.sizeOf265
 v146:=Tryz.zeroValue265
 g1:=by kernel_rfl }
open Go.RowKit Go.Lib in
theorem Tryz.strings_Index (s sub:ByteArray) (m:Int) (w:World) (hs:s.size < 4294967281) (hm:w.cell? ⟨0,0,none⟩=some (.int .i64 m)) :
  Calls Tryz.prog 166 #[.string s,.string sub] w fun e w'=>e=.returned (.int .i64 (Lib.index s.data.toList sub.data.toList))/\w'=w:=Any.strings_Index Tryz.Sq s sub m w hs hm
def Tryz.VQ:Go.Shelf.Ren:=⟨fun | 157=>223 | 229=>256 | 199=>257 | 261=>274 | 311=>283 | 312=>284 | n=>n,fun | 9=>9 | 31=>22 | 3=>3 | 5=>5 | 4=>4 | 119=>253 | 0=>0 | 40=>255 | 152=>269 | 21=>21 | 154=>271 | 51=>229 | 141=>273 | 196=>281 | 193=>278 | 198=>284 | 49=>282 | 194=>279 | 201=>287 | 226=>290 | 46=>192 | 227=>291 | n=>n,fun | 0=>1 | 6=>2 | n=>n⟩
def Tryz.F4:Go.Shelf.Ren:=⟨fun | 157=>223 | 229=>256 | 199=>257 | 261=>274 | 311=>283 | 312=>284 | n=>n,fun | 9=>9 | 31=>22 | 3=>3 | 5=>5 | 4=>4 | 119=>253 | 0=>0 | 40=>255 | 152=>269 | 21=>21 | 154=>271 | 51=>229 | 141=>273 | 196=>281 | 193=>278 | 198=>284 | 49=>282 | 194=>279 | 201=>287 | 226=>290 | 46=>192 | 227=>291 | n=>n,fun | 0=>1 | 6=>2 | n=>n⟩
theorem Tryz.PB:Go.Proofs.LaysM.n157 Tryz.prog Tryz.F4:={
 mixed:=by kernel_rfl
 f157:=fF Tryz.func223
 f199:=fF Tryz.func257
 f229:=fF Tryz.func256
 f261:=fF Tryz.func274
 f311:=fF Tryz.func283
 f312:=fF Tryz.func284
 t0:=Tryz.underlying0
 a0:=Tryz.isAgg0
 z0:=Tryz.sizeOf0
 v0:=Tryz.zeroValue0
 t3:=Tryz.underlying3
 a3:=Tryz.isAgg3
 z3:=Tryz.sizeOf3
 v3:=Tryz.zeroValue3
 t4:=Tryz.underlying4
 a4:=Tryz.isAgg4
 z4:=Tryz.sizeOf4
 v4:=Tryz.zeroValue4
 t5:=Tryz.underlying5
 a5:=Tryz.isAgg5
 z5:=Tryz.sizeOf5
 v5:=Tryz.zeroValue5
 t9:=Tryz.underlying9
 a9:=Tryz.isAgg9
 z9:=Tryz.sizeOf9
 v9:=Tryz.zeroValue9
 t21:=Tryz.underlying21
 a21:=Tryz.isAgg21
 z21:=Tryz.sizeOf21
 v21:=Tryz.zeroValue21
 t31:=Tryz.underlying22
 a31:=Tryz.isAgg22
 z31:=Tryz.sizeOf22
 v31:=Tryz.zeroValue22
 t40:=Tryz.underlying255
 a40:=Tryz.isAgg255
 z40:=Tryz.sizeOf255
 v40:=Tryz.zeroValue255
 t46:=Tryz.underlying192
 a46:=Tryz.isAgg192
 z46:=Tryz.sizeOf192
 v46:=Tryz.zeroValue192
 t49:=Tryz.underlying282
 a49:=Tryz.isAgg282
 z49:=Tryz.sizeOf282
 v49:=Tryz.zeroValue282
 t51:=Tryz.underlying229
 a51:=Tryz.isAgg229
 z51:=Tryz.sizeOf229
 v51:=Tryz.zeroValue229
 t119:=Tryz.underlying253
 a119:=Tryz.isAgg253
 z119:=Tryz.sizeOf253
 t141:=Tryz.underlying273
 a141:=Tryz.isAgg273
 z141:=Tryz.sizeOf273
 v141:=Tryz.zeroValue273
 t152:=Tryz.underlying269
 a152:=Tryz.isAgg269
 z152:=Tryz.sizeOf269
 v152:=Tryz.zeroValue269
 t154:=Tryz.underlying271
 a154:=Tryz.isAgg271
 z154:=Tryz.sizeOf271
 v154:=Tryz.zeroValue271
 t193:=Tryz.underlying278
 a193:=Tryz.isAgg278
 z193:=Tryz.sizeOf278
 v193:=Tryz.zeroValue278
 t194:=Tryz.underlying279
 a194:=Tryz.isAgg279
 z194:=Tryz.sizeOf279
 v194:=Tryz.zeroValue279
 t196:=Tryz.underlying281
 a196:=Tryz.isAgg281
 z196:=Tryz.sizeOf281
 v196:=Tryz.zeroValue281
 t198:=Tryz.underlying284
 a198:=Tryz.isAgg284
 z198:=Tryz.sizeOf284
 v198:=Tryz.zeroValue284
 t201:=Tryz.underlying287
 a201:=Tryz.isAgg287
 z201:=Tryz.sizeOf287
 v201:=Tryz.zeroValue287
 t226:=Tryz.underlying290
 a226:=Tryz.isAgg290
 z226:=Tryz.sizeOf290
 v226:=Tryz.zeroValue290
 t227:=Tryz.underlying291
 a227:=Tryz.isAgg291
 z227:=Tryz.sizeOf291
 v227:=Tryz.zeroValue291
 g0:=by kernel_rfl
 g6:=by kernel_rfl
 i0:=by kernel_rfl
 i3:=by kernel_rfl
 i4:=by kernel_rfl
 i5:=by kernel_rfl
 i9:=by kernel_rfl
 i21:=by kernel_rfl
 i31:=by kernel_rfl
 i40:=by kernel_rfl
 i46:=by kernel_rfl
 i49:=by kernel_rfl
 i51:=by kernel_rfl
 i141:=by kernel_rfl
 i152:=by kernel_rfl
 i154:=by kernel_rfl
 i193:=by kernel_rfl
 i194:=by kernel_rfl
 i196:=by kernel_rfl
 i198:=by kernel_rfl
 i201:=by kernel_rfl
 i226:=by kernel_rfl
 i227:=by kernel_rfl
 m0:=by kernel_rfl
 m6:=by kernel_rfl }
open Go.RowKit Go.Lib in
theorem Tryz.strings_Fields_laid (s:ByteArray) (w:World) (hs:s.size < 4294967281) (Uf:∀ (j:Nat) b,s.data.toList[j]?=some b->b.toNat < 128) (AM:Lib.TabIs Tryz.prog w "strings.asciiSpace" .u8 Lib.asciiSpaceTab) :
  Calls Tryz.prog 223 #[.string s] w fun e w' =>
   e=.returned (.slice (some ⟨w.heap.size,0,none⟩) (Lib.fields s.data.toList).length (Lib.fields s.data.toList).length)/\w'=w.alloc (.cells ((Lib.fields s.data.toList).map fun l=>Value.string ⟨l.toArray⟩).toArray 9):=Any.strings_Fields_laid Tryz.PB s w hs Uf AM
end Go.Proofs
set_option maxHeartbeats 1000000
namespace Go.Xg
open Go.RowKit Go.Xw Go.Proofs Tryz
attribute [local irreducible] GW GL GO YG GC GA be bd
instance:Dr prog 157 5:=Dr.mk' (ai)
instance:Cz prog 202:=Cz.mk' (e:=204) (ai) (ai)
theorem Ht (g:Value):GF prog 238 [.loc 0 0] [.box 204 [.loc 0 0,.v g]] (.tup []) [.box 204 [.loc 0 0,.v g]]:=by
 refine ah func238 ntmps238 ?_;exact gR
theorem sL (s:ae) (n:Nat) (a:Option Addr) (c:Nat) (rows:List (List GV)) (hn:rows.length=n) (hb:n+s.length<=140737488355328) :
  GC prog 195 [.loc 0 0,.v (sv s)] [.box 204 [.loc 0 0,.v (.slice a n c)],.vech 5 1 rows (.slice a n c)] (fun g aO=>(∃ x,g=.tup [.v (ii s.length),x])/\∃ a c,aO=[.box 204 [.loc 0 0,.v (.slice a (n+s.length) c)],.vech 5 1 (rows++cP s) (.slice a (n+s.length) c)]):=by
 subst hn;have h:=Ht (.slice a rows.length c)
 cases s with
 | nil =>
  refine ah func195 ntmps195 ?_;refine V [0] h ?_;refine GL.VV 1 rfl rfl rfl (by simpa using hb) ?_;refine cE ?_;refine D ?_;refine zH ?_;exact ⟨⟨_,rfl⟩,a,c,by simp [cP]⟩
 | cons x r =>
  generalize hs:x::r=s at *
  have cr:s.isEmpty=false:=by rw [<-hs];rfl
  clear hs;refine ah func195 ntmps195 ?_;refine V [0] h ?_;refine GL.VW 1 rfl rfl rfl bm cW G ?_;intro a2 c2;refine cE ?_;refine D ?_;refine zH ?_;exact ⟨⟨_,rfl⟩,a2,c2,rfl⟩
theorem OD (str:ae) (a:Option Addr) (c:Nat) (h0:str≠[]) (hb:str.length<=140737488355328) :
  GF prog 196 [.loc 0 0] [.box 204 [.loc 0 0,.v (.slice a str.length c)],.vech 5 1 (cP str) (.slice a str.length c)] (.v (sv str)) [.box 204 [.loc 0 0,.v (.slice a str.length c)],.lost]:=by
 have hlen:(cP str).length=str.length:=by simp [cP]
 have hp:Nat.blt 0 str.length=true:=by simpa using List.length_pos_iff.2 h0
 have cr:str.isEmpty=false:=by cases str with | nil=>exact absurd rfl h0 | cons _ _=>rfl
 refine ah func196 ntmps196 ?_;refine aK (aC 0 10 (.a 10 (.q 11 .nil))) ?_;refine aj ?_;refine Li ?_;refine aj ?_;exact ay
end Go.Xg
namespace Go.Xg
open GV (U)
open Go.RowKit Go.Xw Go.Proofs Tryz
open Go.Xp (bQ)
theorem pn.D6 {P:Program} {f:FuncId} {vs:List Value} {w:World} {R:Value->World->Prop} (h:Calls P f vs.toArray w fun e w'=>∃ v,e=.returned v/\R v w'):pn P f vs w R:=h
theorem GW.builder {Q:du} {fr:List GV} {r1 r2:Nat} {rest:Code} {t8 t56 t57 t5:Tmp} {T1 T2 T3 T4 T5:TypeId} {p1 p2 p3:String} {a1 a2 a3:Array Edge} (n:Nat)
  (h8:jj fr t8=true) (Xc:jj fr t56=true) (cr:Nat.beq t8 t56=false) (Y9:Nat.beq t5 t8=false) (hn:cB fr t5=.v (ii (n:Nat))) (hb:n<=281474976710656)
  (h:∀ a c,GW prog 0 rest Q (bo (bo (bo fr t8 (.loc 0 0)) t56 (.v (ii (n:Nat)))) t57 (.v (.tuple #[]))) [.box 204 [.loc 0 0,.v (.slice a 0 c)],.vech 5 1 [] (.slice a 0 c)]) :
  GW prog 0 (.seq (.region r1 [(⟨some t8,.alloc 204,T1,p1,a1,none⟩:Oper)].toArray false) (.seq (.region r2 [(⟨some t56,.move (.tmp t5),T2,p2,a2,none⟩:Oper),⟨some t57,.call ⟨.value (.func 194),[Operand.tmp t8,.tmp t56].toArray,#[T3,T4]⟩,T5,p3,a3,none⟩].toArray false) rest)) Q fr []:=fun B K β w l hm hI hF=>by
 have FE:t8≠t56:=by intro e;subst e;simp at cr
 have QZ:t5≠t8:=by intro e;subst e;simp at Y9
 have i8:=nE hF h8;have i56:=nE hF Xc;refine W.seq (W.region (WL.alloc (t:=204) fun b w1 sX=>WL.nil ?_));refine W.seq (W.region (WL.v R.mv (WL.call (f:=194) (CB:=[.pointer (some ⟨b,0,none⟩),.int .i64 n]) ?_ (R:=fun x w2=>x=.tuple #[]/\(Lib.BuilderAt 204 5 b b (.pointer (some ⟨b,0,none⟩)) [] w2/\Below b w1 w2)) ?_ fun x w2 hx=>WL.nil ?_)))
 ·have hF1:FR K (fY β 0 (.fix b)) (bo fr t8 (.loc 0 0)) (put l (some t8) (.pointer (some ⟨b,0,none⟩))) :=
   (hF.mono (cU.refl K) (jr (i:=0) (x:=.fix b) (by rw [hI.out 0 (aD _)];trivial))).fC t8 (.loc 0 0 b bH)
  have j56:jj (fC l t8 (.pointer (some ⟨b,0,none⟩))) t56=true:=nE hF1 (t:=t56) (by rw [IW];exact Xc)
  have e5:nth (fC l t8 (.pointer (some ⟨b,0,none⟩))) t5=.int .i64 n:=by
   rw [jE QZ];exact Rel.fD (by rw [<-hn];exact hF.nth t5)
  show [nth (fC (fC l t8 (.pointer (some ⟨b,0,none⟩))) t56 (nth (fC l t8 (.pointer (some ⟨b,0,none⟩))) t5)) t8,nth (fC (fC l t8 (.pointer (some ⟨b,0,none⟩))) t56 (nth (fC l t8 (.pointer (some ⟨b,0,none⟩))) t5)) t56]=_;rw [jE FE,rL i8,rL j56,e5]
 ·refine pn.D6 (Calls.mono (Tryz.Builder_Grow_fresh b b n w1 (aD _) sX.blk (by have:=sX.size;omega) hb) ?_);rintro e w' ⟨L,I⟩;exact ⟨_,L,rfl,I⟩
 ·obtain ⟨rfl,⟨_,v,mf,im,vT⟩,Fv⟩:=hx;have im:iQ w2 b 5 1 v 0 []:=im;obtain ⟨a,c,rfl⟩:=im.shape;have uW:=sX.fresh;have iw:Ext ic w w2:=⟨Fv.os.trans sX.ext.os,Fv.tape.trans sX.ext.tape,Fv.output.trans sX.ext.output,jZ sX.ext.size Fv.size,fun k hk hs=>(Fv.block k G).trans (sX.ext.block k hk hs)⟩;have rb:=hI.same iw
  have cV:∀ i,β i=.no:=fun i=>hI.out i (aM _)
  have TX:∀ o,K b o=none:=fun o=>by
   cases hk:K b o with
   | none=>rfl
   | some g=>have:=hI.fz.lt hk;omega
  have XL:=hI.ext.size;have aam:=hI.tab.pow.lt;have nP:=hI.tab.spc.lt;have Ut:dp β (fY β ([]:List Ob).length (.fix b)):=jr (by rw [cV];trivial)
  have hI3:=rb.Qy (x:=.fix b) (y:=.box 204 [.loc 0 0,.v (.slice a 0 c)]) (fun b' bC=>by
   cases bC
   exact ⟨fun i hi=>(by rw [cV] at hi;cases hi),by omega,by omega,by omega⟩) (by
   refine ⟨b,[.pointer (some ⟨b,0,none⟩),.slice a 0 c],bH,mf,.cons (.loc 0 0 b bH) (.cons (.v _) .nil),TX⟩) Ut
  have BH:iQ w2 0 5 1 (.slice a 0 c) 0 []:=im.base (aM _)
  have Xj:∀ g,(Value.slice a 0 c).ownBlock=some g->b < g:=fun g hg=>by
   have L:=(im.lt hg).1
   have I:g≠b:=fun e=>vT (by rw [hg,e])
   omega
  have yl:fY β ([]:List Ob).length (.fix b) 1=.no:=by rw [cH aR];exact cV 1
  have AK:dp (fY β ([]:List Ob).length (.fix b)) (fY (fY β ([]:List Ob).length (.fix b)) 1 (.gr (.slice a 0 c) 0)):=jr (by rw [yl];trivial)
  have hI4:=hI3.Qy (x:=.gr (.slice a 0 c) 0) (y:=.vech 5 1 [] (.slice a 0 c)) (fun g hg=>by
   have:=Xj g hg;refine ⟨fun i hi=>?_,by omega,by omega,by omega⟩
   rcases qi hi with L | L
   ·cases L;omega
   ·rw [cV] at L;cases L) (by
   refine ⟨[],bH,BH,bh.nil,(fun r hr=>by cases hr),fun g hg o=>?_⟩
   cases hk:K g o with
   | none=>rfl
   | some y=>have:=hI.fz.lt hk;have:=Xj g hg;omega) AK
  refine h a c B K _ w2 _ hm hI4 ?_;have hF2:=(hF.mono (cU.refl K) Ut).mono (cU.refl K) AK;refine ((hF2.fC t8 (.loc 0 0 b ?_)).fC t56 ?_).fC t57 (.v _)
  ·rw [cH aR];exact bH
  ·have e5:nth (fC l t8 (.pointer (some ⟨b,0,none⟩))) t5=.int .i64 n:=by
    rw [jE QZ];exact Rel.fD (by rw [<-hn];exact hF.nth t5)
   rw [show ev (put l (some t8) (.pointer (some ⟨b,0,none⟩))) (.tmp t5)=.int .i64 n from e5];exact .v _
attribute [local irreducible] GW GL GO YG GC GA be bd
theorem uR (a b:ae):cP (a++b)=cP a++cP b:=by simp [cP]
def nU (l:List ae):Nat:=(l.map List.length).sum
theorem DY:∀ (r:List ae) (x:ae),(bQ (x::r)).length=nU (x::r)+2 * r.length
 | [],x=>by simp [bQ,nU]
 | y::r,x=>by
  have:=DY r y;simp only [bQ,nU,aU,List.map_cons,sum_cons,List.flatMap_cons,length_cons] at this |-;omega
def gj (l:List ae):ae:=l.flatMap fun y=>44::32::y
theorem Mm (a b:List ae):gj (a++b)=gj a++gj b:=by unfold gj;rw [List.flatMap_append]
theorem Sg (l:List ae) (k:Nat):(gj (l.take k)).length<=(gj l).length:=by
 have:gj l=gj (l.take k)++gj (l.drop k):=by rw [<-Mm,List.take_append_drop]
 rw [this,aU];omega
theorem TO (y:ae):gj [y]=[44,32]++y:=by simp [gj]
theorem Pr (x:ae) (r:List ae):bQ (x::r)=x++gj r:=rfl
theorem Lv (l:List ae) (hb:(bQ l).length<=1099511627776) (hl:l.length<=1099511627776):GF prog 158 [strs l,.v (sv [44,32])] [] (.v (sv (bQ l))) []:=by
 match l,hb,hl with
 | [],hb,hl =>
  refine ah func158 ntmps158 ?_;exact al
 | [x],hb,hl =>
  have hr:([x].map fun s=>[GV.v (sv s)])[0]?=some [.v (sv x)]:=rfl
  have e:bQ [x]=x:=by simp [bQ]
  rw [e];refine ah func158 ntmps158 ?_;exact al
 | x::y::r,hb,hl =>
  have sr:((x::y::r).map fun s=>[GV.v (sv s)])[0]?=some [.v (sv x)]:=rfl;have hlen:=DY (y::r) x
  have Ad:x.length<=1099511627776:=by simp only [bQ,aU] at hb;omega
  generalize hL:(x::y::r)=l at *
  have jc:2<=l.length:=by rw [<-hL];simp
  have eR:(l.map fun s=>[GV.v (sv s)]).length=l.length:=by simp
  have yl:Nat.blt 1 (l.map fun s=>[GV.v (sv s)]).length=true:=by rw [eR];simpa [Nat.blt] using jc
  have DR:(((l.map fun s=>[GV.v (sv s)]).length:Int)==0)=false:=by rw [eR];simp only [beq_eq_false_iff_ne,ne_eq];omega
  have BE:(((l.map fun s=>[GV.v (sv s)]).length:Int)==1)=false:=by rw [eR];simp only [beq_eq_false_iff_ne,ne_eq];omega
  have hq:decide ((9223372036854775807:Int) / (((l.map fun s=>[GV.v (sv s)]).length:Int) - 1)<=2)=false:=by
   rw [eR]
   have h3:(3:Int)<=9223372036854775807 / ((l.length:Int) - 1):=by
    rw [Int.le_ediv_iff_mul_le G];omega
   simp;omega
  refine ah func158 ntmps158 ?_;apply GL.q
  ·exact YG.mul (a:=2) (b:=((l.map fun s=>[GV.v (sv s)]).length:Int) - 1) rfl rfl G
  refine bJ ?_;refine D ?_;refine GW.range (l.map fun s=>[GV.v (sv s)]).length (fun k fr F=>fr=[strs l,.v (sv [44,32]),U,U,U,.v (ii (0+2 * (((l.map fun s=>[GV.v (sv s)]).length:Int) - 1)+((nU (l.take k):Nat):Int))),U,U,U,U,U,U,U,U,U,U,U,U,U,U,U,U,U,U,U,U,U,U,U,U,U,U,U,U,U,U,U,U,U,strs l,.v (ii ((l.map fun s=>[GV.v (sv s)]).length:Int)),.v (ii (k:Nat)),U,U,U,U,U,U,U,U,U,U,U,U,U,U,U,U,U,U,U,U,U,U,U,U,U,U,U,U,U,U,U,U,U]/\F=[]) ?_ G ?_ ?_ ?_
  ·refine ⟨_,_,Wk.aE (cJ:=[strs l,.v (sv [44,32]),U,U,U,.v (ii (0+2 * (((l.map fun s=>[GV.v (sv s)]).length:Int) - 1))),U,U,U,U,U,U,U,U,U,U,U,U,U,U,U,U,U,U,U,U,U,U,U,U,U,U,U,U,U,U,U,U,U,strs l,.v (ii ((l.map fun s=>[GV.v (sv s)]).length:Int)),.v (ii (0:Nat)),U,U,U,U,U,U,U,U,U,U,U,U,U,U,U,U,U,U,U,U,U,U,U,U,U,U,U,U,U,U,U,U,U]) ao,?_,rfl⟩;rw [List.take_zero,show ((nU []:Nat):Int)=0 from rfl,Int.add_zero]
  ·rintro k _ _ ⟨rfl,rfl⟩;exact et
  ·rintro k _ _ ak ⟨rfl,rfl⟩;rw [eR] at ak
   have dI:l[k]?=some l[k]:=by simp [ak]
   have yw:(l.map fun s=>[GV.v (sv s)])[k]?=some [.v (sv l[k])]:=by rw [aV,dI];rfl
   have hs:nU (l.take (k+1))=nU (l.take k)+l[k].length:=by unfold nU;rw [cm,dI,iL,List.sum_append];simp only [Option.toList,List.map_cons,map_nil,sum_cons,List.sum_nil,Nat.add_zero]
   have hle:nU (l.take (k+1))<=nU l:=by
    have:nU l=nU (l.take (k+1))+nU (l.drop (k+1)):=by
     unfold nU;rw [<-List.sum_append,<-iL,List.take_append_drop]
    omega
   generalize l[k]=z at *;rw [show (0+2 * (((l.map fun s=>[GV.v (sv s)]).length:Int) - 1)+((nU (l.take (k+1)):Nat):Int))=0+2 * (((l.map fun s=>[GV.v (sv s)]).length:Int) - 1)+((nU (l.take k):Nat):Int)+(z.length:Int) by rw [hs];omega]
   have hov:decide (9223372036854775807 - (0+2 * (((l.map fun s=>[GV.v (sv s)]).length:Int) - 1)+((nU (l.take k):Nat):Int)) < (z.length:Int))=false:=by
    simp only [decide_eq_false_iff_not];omega
   refine D ?_;exact ⟨rfl,rfl,_,_,Wk.aE ao,rfl,rfl⟩
  ·rintro _ _ ⟨rfl,rfl⟩;rw [eR,b7]
   have hN:(0+2 * ((l.length:Int) - 1)+((nU l:Nat):Int))=(((bQ l).length:Nat):Int):=by
    have:(y::r).length+1=l.length:=by rw [<-hL];simp
    omega
   rw [hN];refine aW ?_
   refine GW.builder (bQ l).length rfl rfl rfl rfl rfl G fun a c=>?_
   refine D ?_;refine cD [0,1] (sL x 0 a c [] rfl G) ?_;rintro _ _ ⟨⟨u1,rfl⟩,a1,c1,rfl⟩;refine eO ?_;refine D ?_
   have key:∀ k,(x++gj ((y::r).take k)).length<=1099511627776:=fun k=>by
    have L:=Sg (y::r) k;rw [<-hL,Pr,aU] at hb;rw [aU];omega
   refine GW.range ((y::r).map fun s=>[GV.v (sv s)]).length (fun k fr F=>∃ acc a c,fr=[U,.v (sv [44,32]),U,U,U,U,U,U,.loc 0 0,U,U,U,U,U,U,U,U,U,U,U,U,U,U,U,U,U,U,U,U,U,U,U,U,U,U,U,U,U,U,U,U,U,U,U,U,U,U,U,U,U,U,U,U,U,U,U,U,U,U,U,U,U,U,strs (y::r),.v (ii (((y::r).map fun s=>[GV.v (sv s)]).length:Int)),.v (ii (k:Nat)),U,U,U,U,U,U,U,U,U]/\acc=x++gj ((y::r).take k)/\F=[.box 204 [.loc 0 0,.v (.slice a acc.length c)],.vech 5 1 (cP acc) (.slice a acc.length c)]) ?_ ?_ ?_ ?_ ?_
   ·rw [show 0+x.length=x.length from cL _];subst hL;exact ⟨_,_,Wk.aE ao,x,a1,c1,rfl,by simp [gj],rfl⟩
   ·have:((y::r).map fun s=>[GV.v (sv s)]).length+1=l.length:=by rw [<-hL];simp
    omega
   ·rintro k _ _ ⟨acc,a,c,rfl,_,rfl⟩;exact et
   ·rintro k _ _ ak ⟨acc,a,c,rfl,l0,rfl⟩
    have ak:k < (y::r).length:=by simpa using ak
    have dI:(y::r)[k]?=some (y::r)[k]:=by simp [ak]
    have yw:((y::r).map fun s=>[GV.v (sv s)])[k]?=some [.v (sv (y::r)[k])]:=by rw [aV,dI];rfl
    have bK:x++gj ((y::r).take (k+1))=(acc++[44,32])++(y::r)[k]:=by
     rw [cm,dI,Mm,<-cK,<-l0,cK]
     congr 1
     exact TO _
    have xI:=key k;have sW:=key (k+1);rw [bK] at sW;rw [<-l0] at xI;simp only [aU,length_cons,length_nil] at sW;generalize (y::r)[k]=z at *
    have Wf:(cP acc).length=acc.length:=by simp [cP]
    refine D ?_;refine cD [0,1] (sL [44,32] acc.length a c (cP acc) Wf (by simp only [length_cons,length_nil];omega)) ?_;rintro _ _ ⟨⟨u1,rfl⟩,a2,c2,rfl⟩;refine eO ?_;rw [show cP acc++[[GV.v (.int .u8 ((44:UInt8).toNat:Int))],[GV.v (.int .u8 ((32:UInt8).toNat:Int))]]=cP (acc++[44,32]) by simp [cP],show acc.length+([44,32]:ae).length=(acc++[44,32]).length by simp];refine D ?_;refine cD [0,1] (sL z (acc++[44,32]).length a2 c2 (cP (acc++[44,32])) (by simp [cP]) (by simp only [aU,length_cons,length_nil];omega)) ?_;rintro _ _ ⟨⟨u2,rfl⟩,a3,c3,rfl⟩;refine eO ?_
    have ez:List.length (acc++[44,32])+List.length z=List.length ((acc++[44,32])++z):=by simp only [aU]
    rw [<-uR,ez];refine D ?_;exact ⟨rfl,rfl,_,_,Wk.aE ao,(acc++[44,32])++z,a3,c3,rfl,bK.symm,rfl⟩
   ·rintro _ _ ⟨acc,a,c,rfl,l0,rfl⟩
    have hj:bQ l=acc:=by
     rw [l0,<-hL,show ((y::r).map fun s=>[GV.v (sv s)]).length=(y::r).length by simp,b7];rfl
    rw [hj] at hb hlen |-
    have cr:acc≠[]:=by
     intro h0;rw [h0] at hlen;simp at hlen
    have Zl:=OD acc a c cr G;refine D ?_;refine V [0,1] Zl ?_;exact al
end Go.Xg
namespace Go.Xg
open GV (U)
open Go.RowKit Go.Xw Go.Proofs Tryz
open Go.Xp (Tok Nd T)
open Go.Sp (Src)
open Go.Im (pH qQ tr j0 dn gV vy)
attribute [local irreducible] GW GL GO YG GC GA be bd
mutual
def tT:T->GV
 | .mk n l=>.box [.v (ii n.kind),.v (ii n.at_),.v (ii n.n),.v (sv n.s),ints n.kids,.sl 1 (bT l)] 0
def bT:List T->List (List GV)
 | []=>[]
 | t::r=>[tT t]::bT r
end
abbrev uT (t:T):GV:=.box [.v (ii t.n.kind),.v (ii t.n.at_),.v (ii t.n.n),.v (sv t.n.s),ints t.n.kids,.sl 1 (bT t.kids)] 0
theorem Rv (t:T):tT t=uT t:=by cases t;rw [tT];rfl
theorem jw (l:List T):bT l=l.map fun t=>[uT t]:=by
 induction l with
 | nil=>rfl
 | cons t l ih=>rw [bT,ih,Rv];rfl
theorem mI (l:List T):(bT l).length=l.length:=by rw [jw];simp
theorem Dh (l:List T) (t:T):bT (l++[t])=bT l++[[uT t]]:=by rw [jw,jw];simp
theorem sC {l:List T} {i:Nat} {t:T} (h:l[i]?=some t):(bT l)[i]?=some [uT t]:=by rw [jw,aV,h];rfl
def X5:Option (T × Nat)->GV
 | none=>.tup [U,U,.v (.bool false)]
 | some (t,e)=>.tup [uT t,.v (ii (e:Nat)),.v (.bool true)]
theorem G5 (nodes:List Nd) (hl:nodes.length<=1099511627776) (hk:∀ n∈nodes,n.kids.length<=1099511627776):∀ (f a:Nat),nodes.length - a+1<=f->a<=1099511627776 ->
  GF prog 125 [.sl 5 (nodes.map aw),.v (ii (a:Nat))] [] (X5 (pH nodes f a)) []:=by
 intro f
 induction f with
 | zero=>intro a h;omega
 | succ f ih =>
 intro a hf ha;rw [pH]
 cases hn:nodes[a]? with
 | none =>
  have mw:nodes.length<=a:=qV hn
  have hd:decide (((nodes.map aw).length:Int)<=(a:Int))=true:=by simpa using mw
  refine ah func125 ntmps125 ?_;refine rT ?_;exact ⟨_,ik,rfl,rfl⟩
 | some n =>
  have ak:=(bp hn).1
  have hd:decide (((nodes.map aw).length:Int)<=(a:Int))=false:=by simpa using ak
  have hr:(nodes.map aw)[a]?=some (aw n):=by rw [aV,hn];rfl
  have FG:=hk n (bF hn);simp only;generalize hR:qQ (pH nodes f) n.kids (a+1) []=R;refine ah func125 ntmps125 ?_;refine GW.wk (Wk.Gj (i:=0) (o:=5) 131 1 rfl rfl) ?_
  refine GW.range (n.kids.map fun i=>[GV.v (ii i)]).length (fun k fr F=>∃ next acc m rows,fr=[.sl 5 (nodes.map aw),.v (ii (a:Nat)),U,U,U,U,U,.loc 0 0,.v (ii (next:Nat)),U,U,U,U,U,U,U,U,U,U,U,U,U,U,U,U,U,U,U,U,U,ints n.kids,.v (ii ((n.kids.map fun i=>[GV.v (ii i)]).length:Int)),.v (ii (k:Nat)),U,U,U,U,U,U,U,U,U,U,U,U,U,U,U,U,U,U,U,U,U,U,U,U,U,U,U,U,U,U,U,U,U,U,U] /\
   F=[.box 170 [.v (ii n.kind),.v (ii n.at_),.v (ii n.n),.v (sv n.s),ints n.kids,.vec 1 m],.vec 131 1 0 rows]/\rows.length=m/\rows=bT acc/\m=k/\a+1<=next/\next<=nodes.length/\qQ (pH nodes f) (n.kids.drop k) next acc=R) ?_ (by simpa using FG) ?_ ?_ ?_
  ·exact ⟨_,_,Wk.aE ao,a+1,[],0,[],rfl,rfl,rfl,rfl,rfl,aD _,ak,hR⟩
  ·rintro k _ _ ⟨next,acc,m,rows,rfl,rfl,_⟩;exact et
  ·rintro k _ _ iT ⟨next,acc,m,rows,rfl,rfl,hm,bL,ug,IJ,sq,h⟩
   have iT:k < n.kids.length:=by simpa using iT
   have dI:n.kids[k]?=some n.kids[k]:=by simp [iT]
   have yw:(n.kids.map fun i=>[GV.v (ii i)])[k]?=some [.v (ii n.kids[k])]:=by rw [aV,dI];rfl
   rw [kW iT,qQ] at h;generalize n.kids[k]=z at *
   by_cases hz:z=(next:Int)
   ·rw [ab hz] at h;subst hz
    have hz':((next:Int) != (next:Int))=false:=by simp
    have uf:=ih next G G
    cases hq:pH nodes f next with
    | none =>
     rw [hq] at h uf;subst h;refine D ?_;refine V [] uf ?_;refine rT ?_;exact ⟨_,ik,rfl,rfl⟩
    | some x =>
     obtain ⟨t,e⟩:=x;rw [hq] at h uf;simp only at h
     obtain ⟨s1,s2,_,_⟩:=Go.Im.Ba f next t e hq
     refine D ?_;refine V [] uf ?_;refine eu ?_;refine D ?_;exact ⟨rfl,rfl,_,_,Wk.aE ao,e,acc++[t],_,_,rfl,rfl,by simp [hm],by rw [Dh,bL],by omega,by omega,s2,h⟩
   ·rw [M hz] at h;subst h
    have hz':(z != (next:Int))=true:=by simpa using hz
    refine D ?_;refine rT ?_;exact ⟨_,ik,rfl,rfl⟩
  ·rintro _ _ ⟨next,acc,m,rows,rfl,rfl,hm,bL,ug,IJ,sq,h⟩;rw [show n.kids.drop (n.kids.map fun i=>[GV.v (ii i)]).length=[] by simp,qQ] at h;subst h;simp only;subst bL;refine aW ?_;refine GW.wk (Wk.tw (i:=0) (o:=5) (j:=1) rfl rfl rfl rfl hm) ?_
   by_cases h0:n.at_ < 0
   ·rw [ab h0]
    have ub:decide ((0:Int)<=n.at_)=false:=by simpa using h0
    refine D ?_;refine aK (aC 0 11 .nil) ?_;refine bq ?_;rw [ub];refine GW.wk (Wk.freeze (i:=0) rfl rfl rfl (aD _)) ?_;refine rT ?_;exact ⟨_,ik,rfl,rfl⟩
   ·rw [M h0]
    have ub:decide ((0:Int)<=n.at_)=true:=by simpa using h0
    refine D ?_;refine aK (aC 0 11 .nil) ?_;refine bq ?_;rw [ub];refine GW.wk (Wk.freeze (i:=0) rfl rfl rfl (aD _)) ?_;refine JC ?_;exact ⟨rfl,rfl⟩
def Ay (nodes:List Nd):Option (List T × Nat)->GV
 | none=>.tup [U,.v (.bool false)]
 | some (l,e)=>.tup [.sl 1 (bT l),.v (.bool ((e:Int)==(nodes.length:Int)))]
theorem tV (p:Src) (hl:p.nodes.length<=1099511627776) (hk:∀ n∈p.nodes,n.kids.length<=1099511627776) (hf:p.fns.length<=1099511627776) :
  GF prog 66 [.agg (ar p)] [] (Ay p.nodes (j0 p.nodes p.fns 0 [])) []:=by
 generalize hR:j0 p.nodes p.fns 0 []=R;refine ah func66 ntmps66 ?_;refine GW.wk (Wk.C1 (t:=4) (a:=none) (c:=0) 131 1 rfl) ?_
 refine GW.range (p.fns.map au).length (fun k fr F=>∃ next acc m rows,fr=[U,.loc 0 0,U,U,.vec 1 m,.v (ii (next:Nat)),U,U,U,U,U,U,.sl 3 (p.fns.map au),.v (ii ((p.fns.map au).length:Int)),.v (ii (k:Nat)),U,U,U,U,U,U,U,U,U,U,U,U,U,U,U,U,U,U,U,U,U,U,U,U,U,U,U,U,U,U,U] /\
  F=[.box 33 (ar p),.vec 131 1 0 rows]/\rows.length=m/\rows=bT acc/\m=k/\next<=p.nodes.length/\j0 p.nodes (p.fns.drop k) next acc=R) ?_ (by simpa using hf) ?_ ?_ ?_
 ·exact ⟨_,_,Wk.aE ao,0,[],0,[],rfl,rfl,rfl,rfl,rfl,aM _,hR⟩
 ·rintro k _ _ ⟨next,acc,m,rows,rfl,rfl,_⟩;exact et
 ·rintro k _ _ iT ⟨next,acc,m,rows,rfl,rfl,hm,bL,ug,sq,h⟩
  have iT:k < p.fns.length:=by simpa using iT
  have dI:p.fns[k]?=some p.fns[k]:=by simp [iT]
  have yw:(p.fns.map au)[k]?=some (au p.fns[k]):=by rw [aV,dI];rfl
  rw [kW iT,j0] at h;generalize p.fns[k]=fn at *
  have BK:=G5 p.nodes hl hk (p.nodes.length+1) next G G
  unfold tr at h
  cases hq:pH p.nodes (p.nodes.length+1) next with
  | none =>
   rw [hq] at h BK;subst h;refine D ?_;refine V [] BK ?_;refine G9 ?_;exact ⟨_,ik,rfl,rfl⟩
  | some x =>
   obtain ⟨t,e⟩:=x;rw [hq] at h BK;simp only at h
   obtain ⟨s1,s2,_,_⟩:=Go.Im.Ba _ next t e hq
   by_cases hb:fn.body=(next:Int)
   ·rw [ab hb] at h
    have bC:(fn.body != (next:Int))=false:=by simpa using hb
    refine D ?_;refine V [] BK ?_;refine eu ?_;refine D ?_;exact ⟨rfl,rfl,_,_,(Wk.cut (n:=2) (aM _) rfl).trans (Wk.aE ao),e,acc++[t],_,_,rfl,rfl,by simp [hm],by rw [Dh,bL],by omega,s2,h⟩
   ·rw [M hb] at h;subst h
    have bC:(fn.body != (next:Int))=true:=by simpa using hb
    refine D ?_;refine V [] BK ?_;refine G9 ?_;exact ⟨_,ik,rfl,rfl⟩
 ·rintro _ _ ⟨next,acc,m,rows,rfl,rfl,hm,bL,ug,sq,h⟩;rw [show p.fns.drop (p.fns.map au).length=[] by simp,j0] at h;subst h;subst bL;refine aW ?_;refine GW.wk (Wk.jv (t:=4) rfl rfl rfl hm) ?_
  have xL:p.nodes.length=(p.nodes.map aw).length:=by simp
  unfold Ay;rw [xL];refine D ?_;refine aK (aC 0 8 .nil) ?_;refine aj ?_;exact rS
end Go.Xg
namespace Go.Xg
open GV (U)
open Go.RowKit Go.Xw Go.Proofs Tryz
open Go.Xp (Tok Nd T bz one levels ia eo eL dQ dz)
open Go.Sp
attribute [local irreducible] GW GL GO YG GC GA be bd
structure PX where
 a:Value
 b:Value
 c:Value
 d:Value
 e:Value
abbrev bZ (p:RS) (x:PX):Ob:=.box 188 [jx p.l,.v (ii p.i),.v (ii p.e),.v (ii p.code),.v (ii p.at_),.v x.a,.v x.b,.v x.c,.v x.d,.v x.e]
theorem sd (p:RS) (k:Nat) (x:PX) (hp:p.ok) (hk:k<=1):GF prog 207 [.loc 0 0,.v (ii (k:Nat))] [bZ p x] (.agg (dw (Go.Im.tok p k))) [bZ p x]:=by
 obtain ⟨mz,eh⟩:=hp;unfold Go.Im.tok
 cases ht:p.l[p.i+k]? with
 | some t =>
  have hr:=lq ht;have ak:p.i+k < p.l.length:=(bp ht).1
  have hd:decide (((p.l.map dw).length:Int)<=((p.i+k:Nat):Int))=false:=by simpa using by omega
  refine ah func207 ntmps207 ?_;refine aK (aC 0 12 .nil) ?_;refine bq ?_;refine aK (aC 0 12 (.a 12 .nil)) ?_;refine aj ?_;exact pY
 | none =>
  have ak:p.l.length<=p.i+k:=qV ht
  have hd:decide (((p.l.map dw).length:Int)<=((p.i+k:Nat):Int))=true:=by simpa using by omega
  refine ah func207 ntmps207 ?_;refine aK (aC 0 12 .nil) ?_;refine aj ?_;exact pY
theorem Fc (p:RS) (c a:Int) (x:PX):GF prog 245 [.loc 0 0,.v (ii c),.v (ii a)] [bZ p x] (.tup []) [bZ (p.fail c a) x]:=by
 unfold RS.fail
 by_cases h:p.code=0
 ·have h':(p.code==0)=true:=by simpa using h
  rw [ab h];refine ah func245 ntmps245 ?_;exact gR
 ·have h':(p.code==0)=false:=by simpa using h
  rw [M h];refine ah func245 ntmps245 ?_;exact gR
theorem zJ (p:RS) (x:PX) (hp:p.ok):GF prog 208 [.loc 0 0] [bZ p x] (.tup []) [bZ (Go.Im.kV p) x]:=by
 have ht:=sd p 0 x hp aR;unfold Go.Im.kV;generalize Go.Im.tok p 0=t at *;have hf:=Fc p 7 t.at_ x;refine ah func208 ntmps208 ?_;refine V [0] ht ?_;refine V [0] hf ?_;exact gR
theorem wV (p:RS) (d:Nat) (x:PX) (hp:p.ok):GF prog 247 [.loc 0 0,.v (ii (d:Nat))] [bZ p x] (.v (.bool ((Go.Im.b8 p d).code==0))) [bZ (Go.Im.b8 p d) x]:=by
 have ht:=sd p 0 x hp aR;unfold Go.Im.b8;generalize Go.Im.tok p 0=t at *
 by_cases h:d > 60
 ·have h':decide ((60:Int) < (d:Int))=true:=by simpa using by omega
  rw [ab h];have hf:=Fc p 9 t.at_ x;generalize p.fail 9 t.at_=q at *;refine ah func247 ntmps247 ?_;refine V [0] ht ?_;refine V [0] hf ?_;exact al
 ·have h':decide ((60:Int) < (d:Int))=false:=by simpa using by omega
  rw [M h];refine ah func247 ntmps247 ?_;exact al
theorem kK (p:RS) (k:Nat) (s:ae) (x:PX) (hp:p.ok) (hk:k<=1):GF prog 205 [.loc 0 0,.v (ii (k:Nat)),.v (sv s)] [bZ p x] (.v (.bool (Go.Im.is p k s))) [bZ p x]:=by
 have ht:=sd p k x hp hk;unfold Go.Im.is;generalize Go.Im.tok p k=t at *
 cases h:(t.kind==3) with
 | true =>
  rw [Bool.true_and];refine ah func205 ntmps205 ?_;refine V [0] ht ?_;exact al
 | false =>
  rw [Bool.false_and];refine ah func205 ntmps205 ?_;refine V [0] ht ?_;exact al
theorem rI (p:RS) (x:PX) (hp:p.ok):GF prog 206 [.loc 0 0] [bZ p x] (.v (sv (Go.Im.tok p 0).s)) [bZ (Go.Im.bD p) x]:=by
 have ht:=sd p 0 x hp aR;have hw:=zJ p x hp;have ML:=hp.2;have DT:=hp.1;unfold Go.Im.bD;generalize Go.Im.tok p 0=t at *;have hf:=Fc p 8 t.at_ x
 by_cases hc:p.code=0
 ·have dP:(p.code != 0)=false:=by simpa using hc
  rw [ab hc]
  by_cases I:t.kind=2
  ·have q9:(t.kind != 2)=false:=by simpa using I
   rw [ab I]
   by_cases hl:t.s.length > 12
   ·have kl:decide ((12:Int) < (t.s.length:Int))=true:=by simpa using by omega
    rw [ab hl];refine ah func206 ntmps206 ?_;refine V [0] ht ?_;refine V [0] hf ?_;exact al
   ·have kl:decide ((12:Int) < (t.s.length:Int))=false:=by simpa using by omega
    rw [M hl];refine ah func206 ntmps206 ?_;refine V [0] ht ?_;exact al
  ·have q9:(t.kind != 2)=true:=by simpa using I
   rw [M I];refine ah func206 ntmps206 ?_;refine V [0] ht ?_;refine V [0] hw ?_;exact al
 ·have dP:(p.code != 0)=true:=by simpa using hc
  rw [M hc];refine ah func206 ntmps206 ?_;refine V [0] ht ?_;exact al
theorem fo (p:RS) (s:ae) (x:PX) (hp:p.ok):GF prog 209 [.loc 0 0,.sl 1 [[.v (sv s)]]] [bZ p x] (.tup []) [bZ (Go.Im.want p s) x]:=by
 have hi:=kK p 0 s x hp aR;have hw:=zJ p x hp;have ML:=hp.2;have DT:=hp.1;unfold Go.Im.want;generalize Go.Im.kV p=q at *;have hr:([[GV.v (sv s)]]:List (List GV))[0]?=some [.v (sv s)]:=rfl;refine ah func209 ntmps209 ?_
 by_cases hc:p.code=0
 ·have dP:(p.code != 0)=false:=by simpa using hc
  rw [ab hc]
  cases h:Go.Im.is p 0 s with
  | true =>
   rw [h] at hi;rw [ab rfl];refine GW.range 1 (fun k fr F=>fr=[.loc 0 0,U,U,U,U,U,.sl 1 [[.v (sv s)]],.v (ii ((1:Nat):Int)),.v (ii (k:Nat)),U,U,U,U,U,U,U,U,U,U,U,U,U,U,U,U,U,U,U,U,U,U]/\((k=0/\F=[bZ p x])\/(1<=k/\F=[bZ p.next x]))) ?_ aR ?_ ?_ ?_
   ·exact ⟨_,_,Wk.aE ao,rfl,.inl ⟨rfl,rfl⟩⟩
   ·rintro k _ _ ⟨rfl,_⟩;exact et
   ·rintro k _ _ hk ⟨rfl,⟨rfl,rfl⟩ | ⟨L,_⟩⟩
    ·refine D ?_;refine V [0] hi ?_;exact ⟨rfl,rfl,_,_,Wk.aE ao,rfl,.inr ⟨aD _,rfl⟩⟩
    ·omega
   ·rintro _ _ ⟨rfl,⟨L,_⟩ | ⟨_,rfl⟩⟩
    ·cases L
    ·exact nr
  | false =>
   rw [h] at hi;rw [M aR];refine GW.range 1 (fun k fr F=>fr=[.loc 0 0,U,U,U,U,U,.sl 1 [[.v (sv s)]],.v (ii ((1:Nat):Int)),.v (ii (k:Nat)),U,U,U,U,U,U,U,U,U,U,U,U,U,U,U,U,U,U,U,U,U,U]/\k=0/\F=[bZ p x]) ?_ aR ?_ ?_ ?_
   ·exact kQ
   ·rintro k _ _ ⟨rfl,_⟩;exact et
   ·rintro k _ _ hk ⟨rfl,rfl,rfl⟩;refine D ?_;refine V [0] hi ?_;refine V [0] hw ?_;exact gR
   ·rintro _ _ ⟨rfl,L,_⟩;cases L
 ·have dP:(p.code != 0)=true:=by simpa using hc
  rw [M hc];refine GW.range 1 (fun k fr F=>fr=[.loc 0 0,U,U,U,U,U,.sl 1 [[.v (sv s)]],.v (ii ((1:Nat):Int)),.v (ii (k:Nat)),U,U,U,U,U,U,U,U,U,U,U,U,U,U,U,U,U,U,U,U,U,U]/\k=0/\F=[bZ p x]) ?_ aR ?_ ?_ ?_
  ·exact kQ
  ·rintro k _ _ ⟨rfl,_⟩;exact et
  ·rintro k _ _ hk ⟨rfl,rfl,rfl⟩;exact nr
  ·rintro _ _ ⟨rfl,L,_⟩;cases L
end Go.Xg
namespace Go.Xg
open Go.RowKit Go.Xw Go.Proofs Tryz
open Go.Xp (Tok Nd T bz one levels)
open Go.Sp
attribute [local irreducible] GW GL GO YG GC GA be bd
mutual
def pT:T->GV
 | .mk n l=>.box [.v (ii n.kind),.v (ii n.at_),.v (ii n.n),.v (sv n.s),.v (.slice none 0 0),.sl 1 (jB l)] 0
def jB:List T->List (List GV)
 | []=>[]
 | t::r=>[pT t]::jB r
end
abbrev qT (t:T):GV:=.box [.v (ii t.n.kind),.v (ii t.n.at_),.v (ii t.n.n),.v (sv t.n.s),.v (.slice none 0 0),.sl 1 (jB t.kids)] 0
theorem W0 (t:T):pT t=qT t:=by cases t;rw [pT];rfl
theorem fX (l:List T):jB l=l.map fun t=>[qT t]:=by
 induction l with
 | nil=>rfl
 | cons t l ih=>rw [jB,ih,W0];rfl
theorem ln (l:List T):(jB l).length=l.length:=by rw [fX];simp
theorem wo (l:List T) (t:T):jB (l++[t])=jB l++[[qT t]]:=by rw [fX,fX];simp
theorem yU {l:List T} {i:Nat} {t:T} (h:l[i]?=some t):(jB l)[i]?=some [qT t]:=by rw [fX,aV,h];rfl
theorem Nu (k a:Int) (s:ae) (rows:List (List GV)):GF prog 246 [.v (ii k),.v (ii a),.v (sv s),.sl 1 rows] [] (.loc 0 0) [.box 170 [.v (ii k),.v (ii a),.v (ii 0),.v (sv s),.v (.slice none 0 0),.sl 1 rows]]:=by
 refine ah func246 ntmps246 ?_;refine GW.wk (Wk.cells 0 rfl (ds:=[.v (ii k),.v (ii a),.v (ii 0),.v (sv s),.v (.slice none 0 0),.sl 1 rows]) ik) ?_;refine GW.ret ?_;refine CM (n:=1) rfl dF rfl (aM _) rfl rfl ?_;exact ⟨rfl,rfl⟩
theorem eX (k a:Int) (s:ae) (l:List T) (rows:List (List GV)) (h:jB l=rows):GF prog 246 [.v (ii k),.v (ii a),.v (sv s),.sl 1 rows] [] (qT (one k a s l)) []:=by
 subst h;refine ah func246 ntmps246 ?_;refine GW.wk (Wk.cells 0 rfl (ds:=[.v (ii k),.v (ii a),.v (ii 0),.v (sv s),.v (.slice none 0 0),.sl 1 (jB l)]) ik) ?_;refine GW.wk (Wk.freeze (i:=0) rfl rfl rfl (aM _)) ?_;exact al
theorem ur:GF prog 199 [] [] (.sl 1 (levels.map fun l=>[strs l])) []:=by
 refine ah func199 ntmps199 ?_
 iterate 10 (refine cw ?_)
 exact ay
end Go.Xg
namespace Go.Xg
open GV (U)
open Go.RowKit Go.Xw Go.Proofs Tryz
open Go.Xp (Tok Nd T levels c6 bQ aQ aB)
open Go.Im (oP sA uQ mj de gi uF kR gH qI qJ)
attribute [local irreducible] GW GL GO YG GC GA be bd
theorem decDigits_eq (n:Nat):Go.Lib.decDigits n=c6 n:=by
 induction n using Nat.strongRecOn with
 | _ n ih =>
  unfold Go.Lib.decDigits c6;split
  ·rfl
  ·rw [ih (n / 10) G]
theorem Sl (n:Int):Go.Lib.itoa n=oP n:=by
 unfold Go.Lib.itoa oP;rw [decDigits_eq,decDigits_eq]
theorem Lu (n:Int) (h0 : -9223372036854775808<=n) (L:n<=9223372036854775807):GF prog 157 [.v (ii n)] [] (.v (sv (oP n))) []:=by
 refine GF.U3 (vs:=[ii n]) fun K β w ht hf=>?_
 obtain ⟨E,z,mf⟩:=tO.all ht hf ht.pow (zs:=wq.map fun z=>Value.int .u64 z) aR (fun m o x hx=>by
  rw [aV] at hx;unfold xT;rw [M aR,ab rfl]
  cases hs:wq[o]? with
  | none=>rw [hs] at hx;cases hx
  | some y=>rw [hs] at hx;cases hx;rfl)
 have AM:Go.Lib.TabIs prog w "internal/strconv.uint64pow10" .u64 Go.Lib.pow10Tab:=by
  unfold Go.Lib.TabIs World.var?;rw [show prog.globalNamed "internal/strconv.uint64pow10" = some 3 by kernel_rfl,show Go.Lib.pow10Tab=wq by decide];simp only [Option.bind_some,mf]
 refine pn.D6 (Calls.mono (strconv_Itoa n h0 L w AM) ?_);rintro e w' ⟨I,k,os,h3⟩;refine ⟨_,I,by rw [Sl];rfl,?_⟩;subst h3;refine ⟨rfl,rfl,rfl,by simp [Go.Sort.grow,World.drewN],fun j hj _=>?_⟩;simp only [Go.Sort.grow,World.drewN];rw [Array.getElem?_append_left hj]
theorem PJ (l:List ae) (s:ae) (hl:l.length<=1099511627776):GF prog 200 [strs l,.box [.v (sv s)] 0] [] (.v (.bool (l.contains s))) []:=by
 have h:=kp l s hl;generalize l.contains s=b at *;refine ah func200 ntmps200 ?_;refine V [] h ?_;exact al
def CU (ls:List (List ae)) (s:ae):Int:=match ls.findIdx? (fun l=>l.contains s) with | some i=>(i:Int) | none => -1
theorem Ho (ls:List (List ae)) (s:ae) (hn:ls.length<=1099511627776) (hl:∀ l∈ls,l.length<=1099511627776) :
  GF prog 198 [.sl 1 (ls.map fun l=>[strs l]),.fn (.func 200) [] [.box [.v (sv s)] 0]] [] (.v (ii (CU ls s))) []:=by
 have eR:(ls.map fun l=>[strs l]).length=ls.length:=by simp
 refine ah func198 ntmps198 ?_;refine GW.range (ls.map fun l=>[strs l]).length (fun k fr F=>fr=[.sl 1 (ls.map fun l=>[strs l]),.fn (.func 200) [] [.box [.v (sv s)] 0],U,U,U,U,U,.v (ii ((ls.map fun l=>[strs l]).length:Int)),.v (ii (k:Nat)),U,U,U,U,U,U,U,U,U,U]/\F=[]/\(ls.take k).all (fun l=>!(l.contains s))=true) ?_ G ?_ ?_ ?_
 ·exact kQ
 ·exact iI
 ·rintro k _ _ ak ⟨rfl,rfl,aY⟩;rw [eR] at ak
  have dI:ls[k]?=some ls[k]:=by simp [ak]
  have hr:(ls.map fun l=>[strs l])[k]?=some [strs ls[k]]:=by rw [aV,dI];rfl
  have hc:=PJ ls[k] s (hl _ (getElem_mem ak))
  have bK:(ls.take (k+1)).all (fun l=>!(l.contains s))=((ls.take k).all (fun l=>!(l.contains s))&&!(ls[k].contains s)):=by rw [cm,dI,List.all_append];simp
  have zY:ls[k].contains s=true->CU ls s=(k:Int):=fun h0=>by
   have:ls.findIdx? (fun l=>l.contains s)=some k:=by
    rw [List.findIdx?_eq_some_iff_getElem];refine ⟨ak,h0,fun j hj=>?_⟩;rw [gK] at aY;have:=aY ls[j] (by rw [List.mem_take_iff_getElem];exact ⟨j,by omega,rfl⟩);simpa using this
   unfold CU;rw [this]
  generalize ls[k]=l at *
  cases hb:l.contains s with
  | true =>
   rw [hb] at hc;rw [zY hb];refine D ?_;refine mb [] hc ?_;exact ay
  | false =>
   rw [hb] at hc bK;refine D ?_;refine mb [] hc ?_;refine D ?_;exact ⟨rfl,rfl,_,_,Wk.aE ao,rfl,rfl,by rw [bK,aY];rfl⟩
 ·rintro _ _ ⟨rfl,rfl,aY⟩;rw [eR,b7] at aY
  have:ls.findIdx? (fun l=>l.contains s)=none:=by
   rw [List.findIdx?_eq_none_iff];intro x hx;rw [gK] at aY;simpa using aY x hx
  unfold CU;rw [this];exact ay
theorem D3 (s:ae):GF prog 162 [.v (sv s)] [] (.v (ii (sA s))) []:=by
 have L:=ur;have I:=Ho levels s aR aR;rw [show sA s=CU levels s from rfl];generalize CU levels s=z at *;generalize levels=ls at *;refine ah func162 ntmps162 ?_;refine GL.wk (Wk.freeze (i:=0) rfl rfl rfl (aD _)) ?_;refine GN (by simp only [pS,pf];rfl) ?_;refine V [] L ?_;refine V [] I ?_;exact al
end Go.Xg
namespace Go.Xg
open GV (U)
open Go.RowKit Go.Xw Go.Proofs Tryz
open Go.Xp (Tok Nd T levels c6 bQ aQ aB)
open Go.Im (oP sA uQ mj de gi uF kR gH qI qJ gV vy dn)
attribute [local irreducible] GW GL GO YG GC GA be bd
theorem Nf (t:T) (z:Int):GF prog 163 [uT t,.v (ii z)] [] (.v (.bool (mj t z))) []:=by
 have h:=D3 t.n.s;unfold mj
 cases hk:(t.n.kind==6) with
 | true =>
  generalize sA t.n.s=y at *;refine ah func163 ntmps163 ?_;refine V [] h ?_;exact al
 | false =>
  refine ah func163 ntmps163 ?_;exact al
theorem vq (t:T) (b:Bool) (x:ae) (hx:x.length<=1099511627776) (h:GF prog 114 [uT t] [] (.v (sv x)) []) :
  GF prog 161 [uT t,.v (.bool b)] [] (.v (sv (uQ b x))) []:=by
 unfold uQ
 cases b with
 | true =>
  refine ah func161 ntmps161 ?_;refine V [] h ?_;exact al
 | false =>
  refine ah func161 ntmps161 ?_;refine V [] h ?_;exact al
theorem PL (ex:FuncId) [hf:aJ prog ex] (tx:T->ae) (l:List T) (h:∀ t∈l,GF prog ex [uT t] [] (.v (sv (tx t))) []) (hj:(bQ (l.map tx)).length<=1099511627776) (hl:l.length<=1099511627776) :
  GF prog 160 [.sl 1 (bT l),.v (.func (.func ex) #[] #[])] [] (.v (sv (bQ (l.map tx)))) []:=by
 have qd:=mI l;have hJ:=Lv (l.map tx) hj (by simpa using hl);refine ah func160 ntmps160 ?_;refine GW.wk (Wk.C1 (t:=5) (a:=none) (c:=0) 9 1 rfl) ?_;refine GW.range (bT l).length (fun k fr F=>∃ m rows,fr=[.sl 1 (bT l),.v (.func (.func ex) #[] #[]),U,U,U,.vec 0 m,U,U,.sl 1 (bT l),.v (ii ((bT l).length:Int)),.v (ii (k:Nat)),U,U,U,U,U,U,U,U,U,U,U,U]/\F=[.vec 9 1 0 rows]/\rows.length=m/\rows=((l.take k).map tx).map (fun s=>[GV.v (sv s)])/\m=k) ?_ G ?_ ?_ ?_
 ·exact ⟨_,_,Wk.aE ao,0,[],rfl,rfl,rfl,rfl,rfl⟩
 ·rintro k _ _ ⟨m,rows,rfl,rfl,_⟩;exact et
 ·rintro k _ _ ak ⟨m,rows,rfl,rfl,hm,bL,ug⟩;rw [qd] at ak
  have dI:l[k]?=some l[k]:=by simp [ak]
  have hr:=sC dI;have ht:=h l[k] (getElem_mem ak)
  have bK:((l.take (k+1)).map tx).map (fun s=>[GV.v (sv s)])=rows++[[.v (sv (tx l[k]))]]:=by rw [cm,dI,bL,iL,iL];rfl
  generalize l[k]=t at *;refine D ?_;refine jz [] ht ?_;refine D ?_;refine eu ?_;refine D ?_;exact ⟨rfl,rfl,_,_,Wk.aE ao,_,_,rfl,rfl,by simp [hm],bK.symm,by omega⟩
 ·rintro _ _ ⟨m,rows,rfl,rfl,hm,bL,ug⟩;rw [qd,b7] at bL;refine aW ?_;refine GW.wk (Wk.jv (t:=5) rfl rfl rfl hm) ?_;subst bL;refine D ?_;refine V [] hJ ?_;exact al
theorem Ws {t:T} (h:dn t.n.kind t.kids.length=true) (hk:t.n.kind=3\/t.n.kind=5):∃ a,t.kids=[a]:=by
 have:t.kids.length=1:=by
  unfold dn at h
  rcases hk with hk | hk <;> rw [hk] at h <;> simp at h <;> omega
 match hl:t.kids,this with
 | [a],_=>exact ⟨a,rfl⟩
theorem Wt {t:T} (h:dn t.n.kind t.kids.length=true) (hk:t.n.kind=6):∃ a b,t.kids=[a,b]:=by
 have:t.kids.length=2:=by
  unfold dn at h;rw [hk] at h;simp at h;omega
 match hl:t.kids,this with
 | [a,b],_=>exact ⟨a,b,rfl⟩
theorem S8:∀ (N:Nat) (t:T),aQ t<=N->gV t=true->qI t->kR t<=1099511627776->GF prog 114 [uT t] [] (.v (sv (de t))) []:=by
 intro N
 induction N with
 | zero=>intro t h;rw [Go.Xp.eA] at h;omega
 | succ N ih =>
 intro t hN hk hn hw;have hlen:=Go.Im.wE _ t (aD _) hn;rw [Go.Xp.eA] at hN;rw [Go.Im.yK,aH,Go.Im.uo,gK] at hk;rw [Go.Im.rM] at hn
 have ku:∀ a∈t.kids,GF prog 114 [uT a] [] (.v (sv (de a))) []/\(de a).length<=1099511627776:=fun a ha=>by
  have L:=Go.Im.uJ ha;rw [Go.Im.pK] at hw;have h3:=Go.Im.ky hn.2 ha
  have I:aQ a<=aB t.kids:=by
   have:∀ (l:List T),a∈l->aQ a<=aB l:=by
    intro l
    induction l with
    | nil=>intro h;cases h
    | cons b l ih2 =>
     intro h;rw [aB]
     rcases dA h with rfl | h
     ·omega
     ·have:=ih2 h;omega
   exact this _ ha
  have h4:=Go.Im.wE _ a (aD _) h3;exact ⟨ih a G (hk.2 a ha) h3 G,by omega⟩
 rw [Go.Im.NY] at hlen |-;unfold uF at hlen |-;have vS:=hk.1;have Xq:=@Ws t vS;have Y2:=@Wt t vS;have Uy:=Lu t.n.n hn.1.1 hn.1.2;have II:=D3 t.n.s
 have iT:t.kids.length<=1099511627776:=by
  have:=Go.Im.PH t.kids;rw [Go.Im.pK] at hw;omega
 have EH:=fun hj=>PL 114 de t.kids (fun a ha=>(ku a ha).1) hj iT
 rw [<-Go.Im.Dj] at EH
 have qA:t.n.s.length<=1099511627776:=by rw [Go.Im.pK] at hw;omega
 have QW:(bQ (gi t.kids)).length<=1099511627776:=by
  have L:=Go.Im.AU (gi t.kids)
  have I:((gi t.kids).map fun y=>y.length+2).sum<=gH t.kids:=by
   have:∀ (l:List T),qJ l->((gi l).map fun y=>y.length+2).sum<=gH l:=by
    intro l
    induction l with
    | nil=>intro _;simp [gi]
    | cons a l ih2 =>
     intro h;rw [qJ] at h;have L:=Go.Im.wE _ a (aD _) h.1;have I:=ih2 h.2;rw [gi,gH,List.map_cons,sum_cons];omega
   exact this _ hn.2
  rw [Go.Im.pK] at hw;omega
 have EH:=EH QW;clear QW;unfold uT;generalize gL:t.n.kind=kd at *
 by_cases L:kd=1
 ·subst L
  have cX:((1:Int)==1)=true:=by decide
  rw [ab rfl];refine ah func114 ntmps114 ?_;refine V [] Uy ?_;exact al
 rw [M L] at hlen |-
 have g1:(kd==1)=false:=by simpa using L
 by_cases h3:kd=3
 ·subst h3
  have cX:((3:Int)==1)=false:=by decide
  have pR:((3:Int)==3)=true:=by decide
  rw [ab rfl] at hlen |-;obtain ⟨a,ha⟩:=Xq (.inl rfl);rw [ha] at ku hlen |-;obtain ⟨c1,c2⟩:=ku a (List.mem_singleton.2 rfl)
  have hr:(bT [a])[0]?=some [uT a]:=by rw [jw];rfl
  simp only [gi,getD_cons_zero] at hlen |-;generalize bT [a]=rows at *;generalize de a=x at *;refine ah func114 ntmps114 ?_;refine aK (aC 0 12 (.a 12 (aC 13 3 .nil))) ?_;refine aj ?_;refine aI [] c1 ?_;exact ay
 rw [M h3] at hlen |-
 have g3:(kd==3)=false:=by simpa using h3
 by_cases h4:kd=4
 ·subst h4
  have cX:((4:Int)==1)=false:=by decide
  have pR:((4:Int)==3)=false:=by decide
  have f4:((4:Int)==4)=true:=by decide
  rw [ab rfl] at hlen |-;generalize bT t.kids=rows at *;generalize bQ (gi t.kids)=x at *;simp only [aU,length_cons,length_nil] at hlen;refine ah func114 ntmps114 ?_;refine aK (aC 0 10 (.a 10 (aC 11 3 .nil))) ?_;refine aj ?_;refine aI [] EH ?_;exact ay
 rw [M h4] at hlen |-
 have g4:(kd==4)=false:=by simpa using h4
 by_cases h5:kd=5
 ·subst h5
  have cX:((5:Int)==1)=false:=by decide
  have pR:((5:Int)==3)=false:=by decide
  have f4:((5:Int)==4)=false:=by decide
  have f5:((5:Int)==5)=true:=by decide
  rw [ab rfl] at hlen |-;obtain ⟨a,ha⟩:=Xq (.inr rfl);rw [ha] at ku hlen |-;obtain ⟨c1,c2⟩:=ku a (List.mem_singleton.2 rfl)
  have hr:(bT [a])[0]?=some [uT a]:=by rw [jw];rfl
  simp only [gi,getD_cons_zero] at hlen |-;have Ug:=vq a (a.n.kind==6) (de a) c2 c1;have n5:=Go.Im.zc (a.n.kind==6) (de a);generalize bT [a]=rows at *;generalize hxx:uQ (a.n.kind==6) (de a)=x at *;refine ah func114 ntmps114 ?_;refine aK (aC 0 23 (.a 23 (.q 24 (.q 25 .nil)))) ?_;refine aj ?_;refine aI [] Ug ?_;exact ay
 rw [M h5] at hlen |-
 have g5:(kd==5)=false:=by simpa using h5
 by_cases h6:kd=6
 ·subst h6
  have cX:((6:Int)==1)=false:=by decide
  have pR:((6:Int)==3)=false:=by decide
  have f4:((6:Int)==4)=false:=by decide
  have f5:((6:Int)==5)=false:=by decide
  have f6:((6:Int)==6)=true:=by decide
  rw [ab rfl] at hlen |-;obtain ⟨a,b,ha⟩:=Y2 rfl;rw [ha] at ku hlen |-;obtain ⟨c1,c2⟩:=ku a (List.mem_cons_self);obtain ⟨d1,d2⟩:=ku b (di _ List.mem_cons_self)
  have hr:(bT [a,b])[0]?=some [uT a]:=by rw [jw];rfl
  have jg:(bT [a,b])[1]?=some [uT b]:=by rw [jw];rfl
  simp only [gi,getD_cons_zero,getD_cons_succ] at hlen |-
  have aan : -1<=sA t.n.s/\sA t.n.s<=9:=by
   unfold sA
   cases hf:levels.findIdx? (fun l=>l.contains t.n.s) with
   | none=>simp
   | some i =>
    rw [List.findIdx?_eq_some_iff_getElem] at hf;have:=hf.1
    have h9:levels.length=9:=by decide
    simp only;omega
  generalize sA t.n.s=lv at *;have fR:=Nf a lv;have jc:=Nf b (lv+1);have Ug:=vq a (mj a lv) (de a) c2 c1;have YO:=vq b (mj b (lv+1)) (de b) d2 d1;generalize bT [a,b]=rows at *;generalize hxx:uQ (mj a lv) (de a)=x at *;generalize hyy:uQ (mj b (lv+1)) (de b)=y at *;simp only [aU,length_cons,length_nil] at hlen;refine ah func114 ntmps114 ?_;refine V [] II ?_;refine aK (aC 0 14 (aC 17 5 (aC 24 15 (.a 14 (.a 15 (.q 16 (.q 22 (.q 23 (.a 39 (.a 40 (.q 41 (.q 42 .nil)))))))))))) ?_;refine aj ?_;refine y8 [] fR ?_;refine aj ?_;refine aI [] Ug ?_;refine y8 [] jc ?_;refine aj ?_;refine aI [] YO ?_;exact ay
 rw [M h6]
 have g6:(kd==6)=false:=by simpa using h6
 refine ah func114 ntmps114 ?_;exact al
end Go.Xg
set_option maxHeartbeats 2000000
namespace Go.Xg
open GV (U)
open Go.RowKit Go.Xw Go.Proofs Tryz
open Go.Xp (Tok Nd T levels c6 bQ aQ aB)
open Go.Im
attribute [local irreducible] GW GL GO YG GC GA be bd
abbrev jA (f:FuncId):Value:=.func (.func f) #[] #[]
theorem Pm (l:List ae) (d:Nat) (hb:(fV l d).length<=1099511627776) (hl:l.length<=1099511627776):GF prog 115 [strs l,.v (ii (d:Nat))] [] (.v (sv (fV l d))) []:=by
 have eR:(l.map fun s=>[GV.v (sv s)]).length=l.length:=by simp
 have Mx:=tW l [123,32];unfold fV at hb |-;rw [aU,Mx] at hb;refine ah func115 ntmps115 ?_;refine GW.range (l.map fun s=>[GV.v (sv s)]).length (fun k fr F=>fr=[strs l,U,U,U,U,.v (sv (sM [123,32] (l.take k))),U,U,strs l,.v (ii ((l.map fun s=>[GV.v (sv s)]).length:Int)),.v (ii (k:Nat)),U,U,U,U,U,U,U,U,U,U]/\F=[]) ?_ G ?_ ?_ ?_
 ·exact kh
 ·rintro k _ _ ⟨rfl,rfl⟩;exact et
 ·rintro k _ _ ak ⟨rfl,rfl⟩;rw [eR] at ak
  have dI:l[k]?=some l[k]:=by simp [ak]
  have yw:(l.map fun s=>[GV.v (sv s)])[k]?=some [.v (sv l[k])]:=by rw [aV,dI];rfl
  have L:=tW (l.take (k+1)) [123,32];have I:=NU l (k+1)
  have hz:lj (l.take (k+1))=lj (l.take k)+(l[k].length+1):=by rw [cm,dI,GZ];simp [lj]
  have h3:=tW (l.take k) [123,32];rw [show l.take (k+1)=l.take k++[l[k]] by rw [cm,dI];rfl,LN] at |-;generalize l[k]=z at *;generalize sM [123,32] (l.take k)=acc at *;simp only [length_cons,length_nil] at h3 hb
  have aag:acc.length+z.length+3<=1099511627777:=by omega
  refine D ?_;exact ⟨rfl,rfl,_,_,Wk.aE ao,rfl,rfl⟩
 ·rintro _ _ ⟨rfl,rfl⟩;rw [eR,b7];generalize sM [123,32] l=acc at *;simp only [aU,length_cons,length_nil] at Mx hb;exact ay
theorem WK (ex bk:FuncId) [hf:aJ prog ex] (tx:T->ae) (t a:T) (k:Nat) (hk:t.kids[k]?=some a) (h:GF prog ex [uT a] [] (.v (sv (tx a))) []) :
  GF prog 240 [.v (ii (k:Nat)),.box [.v (jA ex),.v (jA bk)] 0,.box [uT t] 0] [] (.v (sv (tx a))) []:=by
 have hr:=sC hk;generalize tx a=x at *;refine ah func240 ntmps240 ?_;refine aK (aC 0 9 (.a 9 (.q 10 .nil))) ?_;refine aj ?_;refine y8 [] h ?_;refine aj ?_;exact ay
structure Wr (ex bk:FuncId) (tx:T->ae) (inl:List ae->Nat->ae):Prop where
 expr:∀ a,gV a=true->qI a->kR a<=1099511627776->GF prog ex [uT a] [] (.v (sv (tx a))) []
 block:∀ l (d:Nat),(inl l d).length<=1099511627776->l.length<=1099511627776->d<=1099511627776->GF prog bk [strs l,.v (ii (d:Nat))] [] (.v (sv (inl l d))) []
 mem:∀ l d s,s∈l->s.length<=(inl l d).length
theorem zO (ex bk:FuncId) [he:aJ prog ex] [hb:aJ prog bk] (tx:T->ae) (inl:List ae->Nat->ae) (W:Wr ex bk tx inl) (t:T) (d:Nat) (hd:d+1<=1099511627776) (hl:t.kids.length<=1099511627776) (hlen:(nY tx inl d t).length<=1099511627776)
  (h:∀ a∈t.kids,(kP tx inl (d+1) a).length<=1099511627776->GF prog 197 [.agg [.v (jA ex),.v (jA bk)],uT a,.v (ii ((d+1:Nat):Int))] [] (.v (sv (kP tx inl (d+1) a))) []) :
  GF prog 159 [.agg [.v (jA ex),.v (jA bk)],uT t,.v (ii (d:Nat))] [] (.v (sv (nY tx inl d t))) []:=by
 have qd:=mI t.kids;rw [LI,Jt] at hlen |-;have dZ:=W.block (t.kids.map (kP tx inl (d+1))) d hlen (by simpa using hl) G
 have hk:∀ a∈t.kids,GF prog 197 [.agg [.v (jA ex),.v (jA bk)],uT a,.v (ii ((d+1:Nat):Int))] [] (.v (sv (kP tx inl (d+1) a))) []:=fun a ha =>
  h a ha (jZ (W.mem _ d _ (qX.2 ⟨a,ha,rfl⟩)) hlen)
 generalize inl (t.kids.map (kP tx inl (d+1))) d=y at *;refine ah func159 ntmps159 ?_;refine GW.wk (Wk.C1 (t:=7) (a:=none) (c:=0) 9 1 rfl) ?_;refine GW.range (bT t.kids).length (fun k fr F=>∃ m rows,fr=[U,U,.v (ii (d:Nat)),.loc 0 0,U,U,U,.vec 1 m,U,U,U,U,U,.sl 1 (bT t.kids),.v (ii ((bT t.kids).length:Int)),.v (ii (k:Nat)),U,U,U,U,U,U,U,U,U,U,U,U,U,U,U,U,U]/\F=[.box 172 [.v (jA ex),.v (jA bk)],.vec 9 1 0 rows]/\rows.length=m/\rows=((t.kids.take k).map (kP tx inl (d+1))).map (fun s=>[GV.v (sv s)])/\m=k) ?_ G ?_ ?_ ?_
 ·exact ⟨_,_,Wk.aE ao,0,[],rfl,rfl,rfl,rfl,rfl⟩
 ·rintro k _ _ ⟨m,rows,rfl,rfl,_⟩;exact et
 ·rintro k _ _ ak ⟨m,rows,rfl,rfl,hm,bL,ug⟩;rw [qd] at ak
  have dI:t.kids[k]?=some t.kids[k]:=by simp [ak]
  have hr:=sC dI;have ht:=hk t.kids[k] (getElem_mem ak)
  have bK:((t.kids.take (k+1)).map (kP tx inl (d+1))).map (fun s=>[GV.v (sv s)])=rows++[[.v (sv (kP tx inl (d+1) t.kids[k]))]]:=by rw [cm,dI,bL,iL,iL];rfl
  generalize t.kids[k]=kid at *;generalize kP tx inl (d+1) kid=z at *;refine D ?_;refine V [] ht ?_;refine eu ?_;refine D ?_;exact ⟨rfl,rfl,_,_,Wk.aE ao,_,_,rfl,rfl,by simp [hm],bK.symm,by omega⟩
 ·rintro _ _ ⟨m,rows,rfl,rfl,hm,bL,ug⟩;rw [qd,b7] at bL;refine aW ?_;refine GW.wk (Wk.jv (t:=7) rfl rfl rfl hm) ?_;subst bL;refine D ?_;refine jz [] dZ ?_;exact ay
theorem Wu {t:T} {n:Nat} (h:dn t.n.kind t.kids.length=true) (hk:(n=1/\(t.n.kind=13\/t.n.kind=7\/t.n.kind=11\/t.n.kind=12))\/(n=2/\(t.n.kind=8\/t.n.kind=10))):t.kids.length=n:=by
 unfold dn at h
 rcases hk with ⟨rfl,hk⟩ | ⟨rfl,hk⟩
 ·rcases hk with hk | hk | hk | hk <;> rw [hk] at h <;> simp at h <;> omega
 ·rcases hk with hk | hk <;> rw [hk] at h <;> simp at h <;> omega
theorem UW {t:T} (h:dn t.n.kind t.kids.length=true) (hk:t.n.kind=9):t.kids.length=2\/t.kids.length=3:=by
 unfold dn at h;rw [hk] at h;simp at h;omega
theorem HV (ex bk:FuncId) [he:aJ prog ex] [hb:aJ prog bk] (tx:T->ae) (inl:List ae->Nat->ae) (W:Wr ex bk tx inl):∀ (N:Nat) (t:T),aQ t<=N->gV t=true->qI t->kR t<=1099511627776->∀ d,d+aQ t<=1099511627776->(kP tx inl d t).length<=1099511627776 ->
  GF prog 197 [.agg [.v (jA ex),.v (jA bk)],uT t,.v (ii (d:Nat))] [] (.v (sv (kP tx inl d t))) []:=by
 intro N
 induction N with
 | zero=>intro t h;rw [Go.Xp.eA] at h;omega
 | succ N ih =>
 intro t hN hk hn hw d hd hlen;have im:=W.expr t hk hn hw;rw [Go.Xp.eA] at hN hd;rw [Go.Im.yK,aH,Go.Im.uo,gK] at hk;rw [Go.Im.rM] at hn;have hwe:=Go.Im.pK t
 have Km:∀ (l:List T) (a:T),a∈l->aQ a<=aB l:=by
  intro l
  induction l with
  | nil=>intro a h;cases h
  | cons b l ih2 =>
   intro a h;rw [aB]
   rcases dA h with rfl | h
   ·omega
   ·have:=ih2 a h;omega
 have gB:=fun (k:Nat) (a:T) (mT:t.kids[k]?=some a)=>WK ex bk tx t a k mT (W.expr a (hk.2 a (bF mT)) (Go.Im.ky hn.2 (bF mT)) (by have:=Go.Im.uJ (bF mT);omega))
 have dZ:∀ a∈t.kids,(nY tx inl d a).length<=1099511627776->GF prog 159 [.agg [.v (jA ex),.v (jA bk)],uT a,.v (ii (d:Nat))] [] (.v (sv (nY tx inl d a))) []:=fun a ha MI=>by
  have L:=Km _ a ha;have I:=Go.Im.uJ ha;have h3:=hk.2 a ha;have h4:=Go.Im.ky hn.2 ha;rw [Go.Im.yK,aH,Go.Im.uo,gK] at h3;rw [Go.Im.rM] at h4;have h5:=Go.Xp.eA a;have h6:=Go.Xp.bW a.kids;have h7:=Go.Im.pK a
  refine zO ex bk tx inl W a d G G MI fun b fg Us=>?_
  have h8:=Km _ b fg;have h9:=Go.Im.uJ fg;exact ih b G (h3.2 b fg) (Go.Im.ky h4.2 fg) G (d+1) G Us
 rw [NS] at hlen |-;unfold xR at hlen |-;rw [Ic] at hlen |-;have vS:=@Wu t;have Y3:=@UW t hk.1
 have vS:=fun n=>@vS n hk.1
 unfold uT at im |-;unfold uT at gB;generalize gL:t.n.kind=kd at *
 by_cases fm:kd=13
 ·subst fm
  have f13:((13:Int)==13)=true:=by decide
  rw [ab rfl] at hlen |-;have fR:=vS 1 (.inl ⟨rfl,.inl rfl⟩)
  obtain ⟨a,ha⟩:∃ a,t.kids=[a]:=by
   match hl:t.kids,fR with
   | [a],_=>exact ⟨a,rfl⟩
  have h0:=gB 0 a (by rw [ha];rfl);rw [ha] at hlen |-;rw [ha] at h0;simp only [List.map_cons,map_nil,getD_cons_zero,aU,length_cons,length_nil] at hlen |-;generalize tx a=x at *;generalize bT [a]=rows at *;refine cY func197 ntmps197 ?_;refine lu ?_;refine GL.wk (Wk.freeze (i:=0) rfl rfl rfl (aM _)) ?_;refine GL.wk (Wk.freeze (i:=1) rfl rfl rfl (aM _)) ?_;refine GN (by simp only [pS,pf];rfl) ?_;refine D ?_;refine aK (aC 0 8 (.a 8 (aC 9 3 .nil))) ?_;refine aj ?_;refine oF [] h0 ?_;refine aj ?_;exact ay
 rw [M fm] at hlen |-
 have g13:(kd==13)=false:=by simpa using fm
 by_cases h7:kd=7
 ·subst h7
  have f13:((7:Int)==13)=false:=by decide
  have f7:((7:Int)==7)=true:=by decide
  rw [ab rfl] at hlen |-;have fR:=vS 1 (.inl ⟨rfl,.inr (.inl rfl)⟩)
  obtain ⟨a,ha⟩:∃ a,t.kids=[a]:=by
   match hl:t.kids,fR with
   | [a],_=>exact ⟨a,rfl⟩
  have h0:=gB 0 a (by rw [ha];rfl);rw [ha] at hlen |-;rw [ha] at h0;simp only [List.map_cons,map_nil,getD_cons_zero,aU,length_cons,length_nil] at hlen |-;generalize tx a=x at *;generalize bT [a]=rows at *;refine cY func197 ntmps197 ?_;refine lu ?_;refine GL.wk (Wk.freeze (i:=0) rfl rfl rfl (aM _)) ?_;refine GL.wk (Wk.freeze (i:=1) rfl rfl rfl (aM _)) ?_;refine GN (by simp only [pS,pf];rfl) ?_;refine D ?_;refine aK (aC 0 7 (.a 7 (aC 8 3 .nil))) ?_;refine aj ?_;refine oF [] h0 ?_;refine aj ?_;exact ay
 rw [M h7] at hlen |-
 have g7:(kd==7)=false:=by simpa using h7
 by_cases h8:kd=8
 ·subst h8
  have f13:((8:Int)==13)=false:=by decide
  have f7:((8:Int)==7)=false:=by decide
  have f8:((8:Int)==8)=true:=by decide
  rw [ab rfl] at hlen |-;have fR:=vS 2 (.inr ⟨rfl,.inl rfl⟩)
  obtain ⟨a,b,ha⟩:∃ a b,t.kids=[a,b]:=by
   match hl:t.kids,fR with
   | [a,b],_=>exact ⟨a,b,rfl⟩
  have h0:=gB 0 a (by rw [ha];rfl);have L:=gB 1 b (by rw [ha];rfl);rw [ha] at hlen |-;rw [ha] at h0 L;simp only [List.map_cons,map_nil,getD_cons_zero,getD_cons_succ,aU,length_cons,length_nil] at hlen |-;generalize tx a=x at *;generalize tx b=y at *;generalize bT [a,b]=rows at *;refine cY func197 ntmps197 ?_;refine lu ?_;refine GL.wk (Wk.freeze (i:=0) rfl rfl rfl (aM _)) ?_;refine GL.wk (Wk.freeze (i:=1) rfl rfl rfl (aM _)) ?_;refine GN (by simp only [pS,pf];rfl) ?_;refine D ?_;refine aK (aC 0 7 (.q 10 (.a 7 (.q 8 (.q 9 (.a 11 (aC 12 3 .nil))))))) ?_;refine aj ?_;refine oF [] h0 ?_;refine aj ?_;refine oF [] L ?_;refine aj ?_;exact ay
 rw [M h8] at hlen |-
 have g8:(kd==8)=false:=by simpa using h8
 by_cases h9:kd=9
 ·subst h9
  have f13:((9:Int)==13)=false:=by decide
  have f7:((9:Int)==7)=false:=by decide
  have f8:((9:Int)==8)=false:=by decide
  have f9:((9:Int)==9)=true:=by decide
  rw [ab rfl] at hlen |-
  rcases Y3 rfl with fR | fR
  ·skip
   obtain ⟨a,b,ha⟩:∃ a b,t.kids=[a,b]:=by
    match hl:t.kids,fR with
    | [a,b],_=>exact ⟨a,b,rfl⟩
   have h0:=gB 0 a (by rw [ha];rfl)
   have jg:(bT [a,b])[1]?=some [uT b]:=by rw [jw];rfl
   have FN:(bT [a,b]).length=2:=by rw [mI];rfl
   have FM:(((bT [a,b]).length:Int)==3)=false:=by rw [FN];decide
   rw [ha] at hlen |-;rw [ha] at h0;rw [M (by simp)] at hlen |-;simp only [List.map_cons,map_nil,getD_cons_zero,getD_cons_succ,aU,length_cons,length_nil] at hlen |-;have yl:=dZ b (by rw [ha];simp) G;generalize tx a=x at *;generalize nY tx inl d b=y at *;clear dZ gB ih;generalize bT [a,b]=rows at *;refine cY func197 ntmps197 ?_;refine lu ?_;refine GL.wk (Wk.freeze (i:=0) rfl rfl rfl (aM _)) ?_;refine GL.wk (Wk.freeze (i:=1) rfl rfl rfl (aM _)) ?_;refine GN (by simp only [pS,pf];rfl) ?_;refine D ?_;refine aK (.q 0 (aC 4 8 (.a 1 (.q 2 (.q 3 (.a 12 (.q 13 (.q 14 .nil)))))))) ?_;refine aj ?_;refine oF [] h0 ?_;refine aj ?_;refine aI [] yl ?_;exact ay
  ·skip
   obtain ⟨a,b,c,ha⟩:∃ a b c,t.kids=[a,b,c]:=by
    match hl:t.kids,fR with
    | [a,b,c],_=>exact ⟨a,b,c,rfl⟩
   have h0:=gB 0 a (by rw [ha];rfl)
   have jg:(bT [a,b,c])[1]?=some [uT b]:=by rw [jw];rfl
   have ea:(bT [a,b,c])[2]?=some [uT c]:=by rw [jw];rfl
   have FN:(bT [a,b,c]).length=3:=by rw [mI];rfl
   have FM:(((bT [a,b,c]).length:Int)==3)=true:=by rw [FN];decide
   rw [ha] at hlen |-;rw [ha] at h0;rw [ab (by simp)] at hlen |-;simp only [List.map_cons,map_nil,getD_cons_zero,getD_cons_succ,aU,length_cons,length_nil] at hlen |-;have yl:=dZ b (by rw [ha];simp) G;have fg:=dZ c (by rw [ha];simp) G;generalize tx a=x at *;generalize nY tx inl d b=y at *;generalize nY tx inl d c=z at *;clear dZ gB ih;generalize bT [a,b,c]=rows at *;refine cY func197 ntmps197 ?_;refine lu ?_;refine GL.wk (Wk.freeze (i:=0) rfl rfl rfl (aM _)) ?_;refine GL.wk (Wk.freeze (i:=1) rfl rfl rfl (aM _)) ?_;refine GN (by simp only [pS,pf];rfl) ?_;refine D ?_;refine aK (.q 0 (aC 4 8 (.a 1 (.q 2 (.q 3 (.a 12 (.q 13 (.q 14 .nil)))))))) ?_;refine aj ?_;refine oF [] h0 ?_;refine aj ?_;refine aI [] yl ?_;refine D ?_;refine aK (aC 0 9 (.a 9 (aC 10 3 .nil))) ?_;refine aj ?_;refine aI [] fg ?_;exact ay
 rw [M h9] at hlen |-
 have g9:(kd==9)=false:=by simpa using h9
 by_cases mc:kd=10
 ·subst mc
  have f13:((10:Int)==13)=false:=by decide
  have f7:((10:Int)==7)=false:=by decide
  have f8:((10:Int)==8)=false:=by decide
  have f9:((10:Int)==9)=false:=by decide
  have f10:((10:Int)==10)=true:=by decide
  rw [ab rfl] at hlen |-;have fR:=vS 2 (.inr ⟨rfl,.inr rfl⟩)
  ·skip
   obtain ⟨a,b,ha⟩:∃ a b,t.kids=[a,b]:=by
    match hl:t.kids,fR with
    | [a,b],_=>exact ⟨a,b,rfl⟩
   have h0:=gB 0 a (by rw [ha];rfl)
   have jg:(bT [a,b])[1]?=some [uT b]:=by rw [jw];rfl
   have FN:(bT [a,b]).length=2:=by rw [mI];rfl
   have FM:(((bT [a,b]).length:Int)==3)=false:=by rw [FN];decide
   rw [ha] at hlen |-;rw [ha] at h0;simp only [List.map_cons,map_nil,getD_cons_zero,getD_cons_succ,aU,length_cons,length_nil] at hlen |-;have yl:=dZ b (by rw [ha];simp) G;generalize tx a=x at *;generalize nY tx inl d b=y at *;clear dZ gB ih;generalize bT [a,b]=rows at *;refine cY func197 ntmps197 ?_;refine lu ?_;refine GL.wk (Wk.freeze (i:=0) rfl rfl rfl (aM _)) ?_;refine GL.wk (Wk.freeze (i:=1) rfl rfl rfl (aM _)) ?_;refine GN (by simp only [pS,pf];rfl) ?_;refine D ?_;refine aK (.q 0 (aC 4 8 (.a 1 (.q 2 (.q 3 (.a 12 (.q 13 (.q 14 .nil)))))))) ?_;refine aj ?_;refine oF [] h0 ?_;refine aj ?_;refine aI [] yl ?_;exact ay
 rw [M mc] at hlen |-
 have g10:(kd==10)=false:=by simpa using mc
 by_cases pz:kd=11
 ·subst pz
  have f13:((11:Int)==13)=false:=by decide
  have f7:((11:Int)==7)=false:=by decide
  have f8:((11:Int)==8)=false:=by decide
  have f9:((11:Int)==9)=false:=by decide
  have f10:((11:Int)==10)=false:=by decide
  have f11:((11:Int)==11)=true:=by decide
  rw [ab rfl] at hlen |-;have fR:=vS 1 (.inl ⟨rfl,.inr (.inr (.inl rfl))⟩)
  obtain ⟨a,ha⟩:∃ a,t.kids=[a]:=by
   match hl:t.kids,fR with
   | [a],_=>exact ⟨a,rfl⟩
  have h0:=gB 0 a (by rw [ha];rfl);rw [ha] at hlen |-;rw [ha] at h0;simp only [List.map_cons,map_nil,getD_cons_zero,aU,length_cons,length_nil] at hlen |-;generalize tx a=x at *;generalize bT [a]=rows at *;refine cY func197 ntmps197 ?_;refine lu ?_;refine GL.wk (Wk.freeze (i:=0) rfl rfl rfl (aM _)) ?_;refine GL.wk (Wk.freeze (i:=1) rfl rfl rfl (aM _)) ?_;refine GN (by simp only [pS,pf];rfl) ?_;refine D ?_;refine mb [] h0 ?_;exact ay
 rw [M pz] at hlen |-
 have g11:(kd==11)=false:=by simpa using pz
 by_cases o0:kd=12
 ·subst o0
  have f13:((12:Int)==13)=false:=by decide
  have f7:((12:Int)==7)=false:=by decide
  have f8:((12:Int)==8)=false:=by decide
  have f9:((12:Int)==9)=false:=by decide
  have f10:((12:Int)==10)=false:=by decide
  have f11:((12:Int)==11)=false:=by decide
  have f12:((12:Int)==12)=true:=by decide
  rw [ab rfl] at hlen |-;have fR:=vS 1 (.inl ⟨rfl,.inr (.inr (.inr rfl))⟩)
  obtain ⟨a,ha⟩:∃ a,t.kids=[a]:=by
   match hl:t.kids,fR with
   | [a],_=>exact ⟨a,rfl⟩
  have h0:=gB 0 a (by rw [ha];rfl);rw [ha] at hlen |-;rw [ha] at h0;simp only [List.map_cons,map_nil,getD_cons_zero,aU,length_cons,length_nil] at hlen |-;generalize tx a=x at *;generalize bT [a]=rows at *;refine cY func197 ntmps197 ?_;refine lu ?_;refine GL.wk (Wk.freeze (i:=0) rfl rfl rfl (aM _)) ?_;refine GL.wk (Wk.freeze (i:=1) rfl rfl rfl (aM _)) ?_;refine GN (by simp only [pS,pf];rfl) ?_;refine D ?_;refine mb [] h0 ?_;exact ay
 rw [M o0] at hlen |-
 have g12:(kd==12)=false:=by simpa using o0
 clear dZ gB ih;generalize tx t=x at *;refine cY func197 ntmps197 ?_;refine lu ?_;refine GL.wk (Wk.freeze (i:=0) rfl rfl rfl (aM _)) ?_;refine GL.wk (Wk.freeze (i:=1) rfl rfl rfl (aM _)) ?_;refine GN (by simp only [pS,pf];rfl) ?_;refine D ?_;refine jz [] im ?_;exact ay
end Go.Xg
namespace Go.Xg
open GV (U)
open Go.RowKit Go.Xw Go.Proofs Tryz
open Go.Xp (Tok Nd T Ar levels c6 bQ aQ aB)
open Go.Sp (Src)
open Go.Im
attribute [local irreducible] GW GL GO YG GC GA be bd
theorem PA (ex bk:FuncId) [he:aJ prog ex] [hb:aJ prog bk] (tx:T->ae) (inl:List ae->Nat->ae) (W:Wr ex bk tx inl) (p:Src) (trees:List T) (hlen:(nR tx inl p trees).length<=1099511627776) (hft:p.fns.length=trees.length)
  (hg:p.globals.length<=1099511627776) (ha:p.arrays.length<=1099511627776) (hf:p.fns.length<=1099511627776) (kj:∀ a∈p.arrays,-9223372036854775808<=a.size/\a.size<=9223372036854775807) (DU:∀ f∈p.fns,f.params.length<=1099511627776)
  (ht:∀ t∈trees,gV t=true/\qI t/\kR t<=1099511627776/\aQ t+1<=1099511627776) :
  GF prog 113 [.agg (ar p),.sl 1 (bT trees),.v (jA ex),.v (jA bk)] [] (.v (sv (nR tx inl p trees))) []:=by
 have Xu:(p.globals.map fun s=>[GV.v (sv s)]).length=p.globals.length:=by simp
 have lE:(p.arrays.map az).length=p.arrays.length:=by simp
 have Xt:(p.fns.map au).length=p.fns.length:=by simp
 have l2:=CF (cX tx inl) (p.fns.zip trees) (dG a1 (dG g1 [] p.globals) p.arrays);have l1:=CF a1 p.arrays (dG g1 [] p.globals);unfold nR at hlen |-;refine ah func113 ntmps113 ?_;refine GW.wk (Wk.C1 (t:=9) (a:=none) (c:=0) 5 1 rfl) ?_;refine GW.range (p.globals.map fun s=>[GV.v (sv s)]).length (fun k fr F=>∃ acc m rows,fr=[U,.sl 1 (bT trees),.v (jA ex),.v (jA bk),.loc 0 0,U,U,U,U,.vec 1 m,U,U,U,U,U,U,U,U,strs p.globals,.v (ii ((p.globals.map fun s=>[GV.v (sv s)]).length:Int)),.v (ii (k:Nat)),U,U,U,U,U,U,U,U,U,U,U,U,U,U,U,U,U,U,U,U,U,U,U,U,U,U,U,U,U,U,U,U,U,U,U,U,U,U,U,U,U,U,U,U,U,U,U,U,U,U,U,U,U,U,U,U,U,U,U,U,U]/\F=[.box 33 (ar p),.vec 5 1 0 rows]/\rows.length=m/\rows=cP acc/\acc=dG g1 [] (p.globals.take k)) ?_ G ?_ ?_ ?_
 ·exact ⟨_,_,Wk.aE ao,[],0,[],rfl,rfl,rfl,rfl,rfl⟩
 ·rintro k _ _ ⟨acc,m,rows,rfl,rfl,_⟩;exact et
 ·rintro k _ _ ak ⟨acc,m,rows,rfl,rfl,hm,bL,l0⟩;rw [Xu] at ak
  have dI:p.globals[k]?=some p.globals[k]:=by simp [ak]
  have yw:(p.globals.map fun s=>[GV.v (sv s)])[k]?=some [.v (sv p.globals[k])]:=by rw [aV,dI];rfl
  have bK:dG g1 [] (p.globals.take (k+1))=acc++g1 p.globals[k]:=by rw [cm,dI,l0];exact x5 g1 _ _ _
  have hle:=x6 g1 p.globals (k+1) [];rw [bK,aU] at hle
  have Xv:rows.length=acc.length:=by rw [bL];simp [cP]
  generalize p.globals[k]=z at *
  have hz:(g1 z).length=z.length+6:=by unfold g1;simp
  refine D ?_;refine GL.CA (str:=g1 z) rfl rfl rfl bm rfl G ?_;refine cE ?_;refine D ?_;exact ⟨rfl,rfl,_,_,Wk.aE ao,acc++g1 z,_,_,rfl,rfl,by rw [aU,hm];simp [cP],by rw [bL];exact (uR acc (g1 z)).symm,bK.symm⟩
 ·rintro _ _ ⟨acc,m,rows,rfl,rfl,hm,bL,l0⟩;rw [Xu,b7] at l0;rw [<-l0] at hlen l1 l2 |-;refine aW ?_;refine D ?_;refine GW.range (p.arrays.map az).length (fun k fr F=>∃ ry m rows,fr=[U,.sl 1 (bT trees),.v (jA ex),.v (jA bk),.loc 0 0,U,U,U,U,.vec 1 m,U,U,U,U,U,U,U,U,U,U,U,U,U,U,U,U,U,U,U,U,U,.sl 2 (p.arrays.map az),.v (ii ((p.arrays.map az).length:Int)),.v (ii (k:Nat)),U,U,U,U,U,U,U,U,U,U,U,U,U,U,U,U,U,U,U,U,U,U,U,U,U,U,U,U,U,U,U,U,U,U,U,U,U,U,U,U,U,U,U,U,U,U,U,U]/\F=[.box 33 (ar p),.vec 5 1 0 rows]/\rows.length=m/\rows=cP ry/\ry=dG a1 acc (p.arrays.take k)) ?_ G ?_ ?_ ?_
  ·exact ⟨_,_,Wk.aE ao,acc,m,rows,rfl,rfl,hm,bL,rfl⟩
  ·rintro k _ _ ⟨ry,m,rows,rfl,rfl,_⟩;exact et
  ·clear hm bL;rintro k _ _ ak ⟨ry,m,rows,rfl,rfl,hm,bL,EE⟩;rw [lE] at ak
   have dI:p.arrays[k]?=some p.arrays[k]:=by simp [ak]
   have yw:(p.arrays.map az)[k]?=some (az p.arrays[k]):=by rw [aV,dI];rfl
   have bK:dG a1 acc (p.arrays.take (k+1))=ry++a1 p.arrays[k]:=by rw [cm,dI,EE];exact x5 a1 _ _ _
   have hle:=x6 a1 p.arrays (k+1) acc;rw [bK,aU] at hle
   have Xv:rows.length=ry.length:=by rw [bL];simp [cP]
   have yC:=kj p.arrays[k] (getElem_mem ak);generalize p.arrays[k]=z at *;have hit:=Lu z.size yC.1 yC.2;have sV:=yJ yC
   have hz:(a1 z).length=z.name.length+(oP z.size).length+8:=by unfold a1;simp;omega
   unfold az at yw;refine D ?_;refine aK (aC 0 7 (.a 7 (.q 8 (.q 9 (.a 10 (.q 11 .nil)))))) ?_;refine aj ?_;refine aI [] hit ?_;refine OA rfl rfl (GL.CA (str:=a1 z) rfl rfl rfl bm rfl G (GL.nil (aW (fk.mk (by repeat (first | exact jQ.n | (apply jQ.w;(· decide +kernel)) | (apply jQ.y;(· first | (apply YQ.t;(· exact rfl);(· exact rfl);(· (first | exact wH | (apply K.idx;first | exact YG.idxV rfl rfl rfl bm G | exact YG.eB 0 rfl rfl rfl dh | exact YG.eB 1 rfl rfl rfl dh | exact YG.eB 2 rfl rfl rfl dh | exact YG.eB 3 rfl rfl rfl dh | exact YG.eB 4 rfl rfl rfl dh | exact YG.eB 5 rfl rfl rfl dh | exact YG.eB 6 rfl rfl rfl dh) | exact wI | exact YG.wy 1 rfl rfl bm bm | exact YG.mv | exact YG.vE | (apply K.bin;first | exact YG.go rfl | exact YG.xX rfl rfl G | exact YG.Bj rfl rfl | exact YG.B0 rfl rfl | exact YG.E9 rfl rfl | exact YG.Gi rfl rfl | exact YG.cat rfl rfl G | exact YG.cat rfl rfl (by simp only [aU,length_cons,length_nil];omega) | exact YG.Aw rfl rfl G | exact YG.add rfl rfl G | exact YG.sub rfl rfl G | exact YG.mul rfl rfl G | exact YG.GY rfl rfl G | exact YG.quo rfl rfl G | exact YG.rem rfl rfl G | exact YG.xj rfl rfl) | exact uH | exact uG | exact tz | exact qS | exact sH | (apply K.idx;first | exact YG.xc rfl rfl cW | exact YG.nD rfl rfl cW rfl | exact YG.nD rfl rfl cW G | exact YG.yH rfl rfl G) | exact YG.ext rfl rfl | exact YG.go rfl | (apply K.NQ;first | exact YG.GX rfl rfl rfl G | exact YG.GS rfl rfl G | exact YG.GR rfl rfl G | exact YG.yY 1 rfl rfl rfl bm) | exact YG.um rfl rfl cW | exact YG.idxSC rfl rfl cW rfl | exact sI | exact YG.build rfl | exact YG.neg rfl G | exact YG.ua rfl rfl | exact YG.Bh rfl (by first | rfl | exact IntWalk.i64_in _ G | exact IntWalk.u8_in _ G | assumption) | exact YG.str rfl bm))) | (apply YQ.t;(· exact rfl);(· apply CL;(· exact rfl);(· first | exact rfl | assumption));(· (first | exact wH | (apply K.idx;first | exact YG.idxV rfl rfl rfl bm G | exact YG.eB 0 rfl rfl rfl dh | exact YG.eB 1 rfl rfl rfl dh | exact YG.eB 2 rfl rfl rfl dh | exact YG.eB 3 rfl rfl rfl dh | exact YG.eB 4 rfl rfl rfl dh | exact YG.eB 5 rfl rfl rfl dh | exact YG.eB 6 rfl rfl rfl dh) | exact wI | exact YG.wy 1 rfl rfl bm bm | exact YG.mv | exact YG.vE | (apply K.bin;first | exact YG.go rfl | exact YG.xX rfl rfl G | exact YG.Bj rfl rfl | exact YG.B0 rfl rfl | exact YG.E9 rfl rfl | exact YG.Gi rfl rfl | exact YG.cat rfl rfl G | exact YG.cat rfl rfl (by simp only [aU,length_cons,length_nil];omega) | exact YG.Aw rfl rfl G | exact YG.add rfl rfl G | exact YG.sub rfl rfl G | exact YG.mul rfl rfl G | exact YG.GY rfl rfl G | exact YG.quo rfl rfl G | exact YG.rem rfl rfl G | exact YG.xj rfl rfl) | exact uH | exact uG | exact tz | exact qS | exact sH | (apply K.idx;first | exact YG.xc rfl rfl cW | exact YG.nD rfl rfl cW rfl | exact YG.nD rfl rfl cW G | exact YG.yH rfl rfl G) | exact YG.ext rfl rfl | exact YG.go rfl | (apply K.NQ;first | exact YG.GX rfl rfl rfl G | exact YG.GS rfl rfl G | exact YG.GR rfl rfl G | exact YG.yY 1 rfl rfl rfl bm) | exact YG.um rfl rfl cW | exact YG.idxSC rfl rfl cW rfl | exact sI | exact YG.build rfl | exact YG.neg rfl G | exact YG.ua rfl rfl | exact YG.Bh rfl (by first | rfl | exact IntWalk.i64_in _ G | exact IntWalk.u8_in _ G | assumption) | exact YG.str rfl bm))) | (apply YQ.f;(· exact rfl);(· apply Fi;(· exact rfl);(· first | exact rfl | assumption))))))) ?_))))
   refine N9 ?_;refine bq ?_;exact ⟨rfl,rfl,_,_,(Wk.cut (n:=2) (aM _) rfl).trans (Wk.aE ao),ry++a1 z,_,_,rfl,rfl,by rw [aU,hm];simp [cP],by rw [bL];exact (uR ry (a1 z)).symm,bK.symm⟩
  ·clear hm bL;rintro _ _ ⟨ry,m,rows,rfl,rfl,hm,bL,EE⟩;rw [lE,b7] at EE;rw [<-EE] at hlen l2 |-
   have AL:∀ (k:Nat) (f:Go.Sp.Fn),p.fns[k]?=some f->f.params.length<=1099511627776:=fun k f h=>DU f (bF h)
   refine aW ?_;refine D ?_;refine GW.range (p.fns.map au).length (fun k fr F=>∃ vn m rows,fr=[U,.sl 1 (bT trees),U,U,U,U,U,U,U,.vec 1 m,U,U,U,U,.loc 2 0,U,U,U,U,U,U,U,U,U,U,U,U,U,U,U,U,U,U,U,U,U,U,U,U,U,U,U,U,U,U,U,U,U,U,U,U,U,U,.sl 3 (p.fns.map au),.v (ii ((p.fns.map au).length:Int)),.v (ii (k:Nat)),U,U,U,U,U,U,U,U,U,U,U,U,U,U,U,U,U,U,U,U,U,U,U,U,U,U]/\F=[.box 33 (ar p),.vec 5 1 0 rows,.box 172 [.v (jA ex),.v (jA bk)]]/\rows.length=m/\rows=cP vn/\vn=dG (cX tx inl) ry ((p.fns.zip trees).take k)) ?_ G ?_ ?_ ?_
   ·exact ⟨_,_,Wk.aE ao,ry,m,rows,rfl,rfl,hm,bL,rfl⟩
   ·rintro k _ _ ⟨vn,m,rows,rfl,rfl,_⟩;exact et
   ·clear hm bL;rintro k _ _ ak ⟨vn,m,rows,rfl,rfl,hm,bL,EG⟩;rw [Xt] at ak
    have nP:k < trees.length:=by omega
    have dI:p.fns[k]?=some p.fns[k]:=by simp [ak]
    have xJ:trees[k]?=some trees[k]:=by simp [nP]
    have yw:(p.fns.map au)[k]?=some (au p.fns[k]):=by rw [aV,dI];rfl
    have aaj:=sC xJ
    have hkz:(p.fns.zip trees)[k]?=some (p.fns[k],trees[k]):=by rw [List.getElem?_zip_eq_some];exact ⟨dI,xJ⟩
    have bK:dG (cX tx inl) ry ((p.fns.zip trees).take (k+1))=vn++cX tx inl (p.fns[k],trees[k]):=by rw [cm,hkz,EG];exact x5 (cX tx inl) _ _ _
    have hle:=x6 (cX tx inl) (p.fns.zip trees) (k+1) ry;rw [bK,aU] at hle
    have Xv:rows.length=vn.length:=by rw [bL];simp [cP]
    obtain ⟨q1,q2,q3,q4⟩:=ht trees[k] (getElem_mem nP);have hpk:=AL k _ dI;generalize p.fns[k]=f at *;generalize trees[k]=t at *
    have hz:(cX tx inl (f,t)).length=f.name.length+(bQ f.params).length+(nY tx inl 0 t).length+9:=by unfold cX;simp;omega
    have hJ:=Lv f.params G hpk
    have Km:∀ (l:List T) (a:T),a∈l->aQ a<=aB l:=by
     intro l
     induction l with
     | nil=>intro a h;cases h
     | cons b l ih2 =>
      intro a h;rw [aB]
      rcases dA h with rfl | h
      ·omega
      ·have:=ih2 a h;omega
    have hB:=zO ex bk tx inl W t 0 G (by have:=Go.Xp.bW t.kids;have:=Go.Xp.eA t;omega) G fun a DM MI=>by
     have L:=Km _ a DM;have I:=Go.Xp.eA t;have h3:=uJ DM;have h4:=pK t;rw [yK,aH,uo,gK] at q1;rw [rM] at q2;exact HV ex bk tx inl W _ a (aD _) (q1.2 a DM) (ky q2.2 DM) G (0+1) G MI
    unfold au at yw;refine D ?_;refine aK (aC 0 7 (aC 10 5 (.a 7 (.q 8 (.q 9 (.a 15 (.q 16 (.q 17 (.a 18 (.q 19 .nil)))))))))) ?_;refine aj ?_;refine aI [] hJ ?_;refine aI [] hB ?_;refine OA rfl rfl (GL.CA (str:=cX tx inl (f,t)) rfl rfl rfl bm rfl G (GL.nil (aW (fk.mk (by repeat (first | exact jQ.n | (apply jQ.w;(· decide +kernel)) | (apply jQ.y;(· first | (apply YQ.t;(· exact rfl);(· exact rfl);(· (first | exact wH | (apply K.idx;first | exact YG.idxV rfl rfl rfl bm G | exact YG.eB 0 rfl rfl rfl dh | exact YG.eB 1 rfl rfl rfl dh | exact YG.eB 2 rfl rfl rfl dh | exact YG.eB 3 rfl rfl rfl dh | exact YG.eB 4 rfl rfl rfl dh | exact YG.eB 5 rfl rfl rfl dh | exact YG.eB 6 rfl rfl rfl dh) | exact wI | exact YG.wy 1 rfl rfl bm bm | exact YG.mv | exact YG.vE | (apply K.bin;first | exact YG.go rfl | exact YG.xX rfl rfl G | exact YG.Bj rfl rfl | exact YG.B0 rfl rfl | exact YG.E9 rfl rfl | exact YG.Gi rfl rfl | exact YG.cat rfl rfl G | exact YG.cat rfl rfl (by simp only [aU,length_cons,length_nil];omega) | exact YG.Aw rfl rfl G | exact YG.add rfl rfl G | exact YG.sub rfl rfl G | exact YG.mul rfl rfl G | exact YG.GY rfl rfl G | exact YG.quo rfl rfl G | exact YG.rem rfl rfl G | exact YG.xj rfl rfl) | exact uH | exact uG | exact tz | exact qS | exact sH | (apply K.idx;first | exact YG.xc rfl rfl cW | exact YG.nD rfl rfl cW rfl | exact YG.nD rfl rfl cW G | exact YG.yH rfl rfl G) | exact YG.ext rfl rfl | exact YG.go rfl | (apply K.NQ;first | exact YG.GX rfl rfl rfl G | exact YG.GS rfl rfl G | exact YG.GR rfl rfl G | exact YG.yY 1 rfl rfl rfl bm) | exact YG.um rfl rfl cW | exact YG.idxSC rfl rfl cW rfl | exact sI | exact YG.build rfl | exact YG.neg rfl G | exact YG.ua rfl rfl | exact YG.Bh rfl (by first | rfl | exact IntWalk.i64_in _ G | exact IntWalk.u8_in _ G | assumption) | exact YG.str rfl bm))) | (apply YQ.t;(· exact rfl);(· apply CL;(· exact rfl);(· first | exact rfl | assumption));(· (first | exact wH | (apply K.idx;first | exact YG.idxV rfl rfl rfl bm G | exact YG.eB 0 rfl rfl rfl dh | exact YG.eB 1 rfl rfl rfl dh | exact YG.eB 2 rfl rfl rfl dh | exact YG.eB 3 rfl rfl rfl dh | exact YG.eB 4 rfl rfl rfl dh | exact YG.eB 5 rfl rfl rfl dh | exact YG.eB 6 rfl rfl rfl dh) | exact wI | exact YG.wy 1 rfl rfl bm bm | exact YG.mv | exact YG.vE | (apply K.bin;first | exact YG.go rfl | exact YG.xX rfl rfl G | exact YG.Bj rfl rfl | exact YG.B0 rfl rfl | exact YG.E9 rfl rfl | exact YG.Gi rfl rfl | exact YG.cat rfl rfl G | exact YG.cat rfl rfl (by simp only [aU,length_cons,length_nil];omega) | exact YG.Aw rfl rfl G | exact YG.add rfl rfl G | exact YG.sub rfl rfl G | exact YG.mul rfl rfl G | exact YG.GY rfl rfl G | exact YG.quo rfl rfl G | exact YG.rem rfl rfl G | exact YG.xj rfl rfl) | exact uH | exact uG | exact tz | exact qS | exact sH | (apply K.idx;first | exact YG.xc rfl rfl cW | exact YG.nD rfl rfl cW rfl | exact YG.nD rfl rfl cW G | exact YG.yH rfl rfl G) | exact YG.ext rfl rfl | exact YG.go rfl | (apply K.NQ;first | exact YG.GX rfl rfl rfl G | exact YG.GS rfl rfl G | exact YG.GR rfl rfl G | exact YG.yY 1 rfl rfl rfl bm) | exact YG.um rfl rfl cW | exact YG.idxSC rfl rfl cW rfl | exact sI | exact YG.build rfl | exact YG.neg rfl G | exact YG.ua rfl rfl | exact YG.Bh rfl (by first | rfl | exact IntWalk.i64_in _ G | exact IntWalk.u8_in _ G | assumption) | exact YG.str rfl bm))) | (apply YQ.f;(· exact rfl);(· apply Fi;(· exact rfl);(· first | exact rfl | assumption))))))) ?_))))
    refine N9 ?_;refine bq ?_;exact ⟨rfl,rfl,_,_,(Wk.cut (n:=3) (aM _) rfl).trans (Wk.aE ao),vn++cX tx inl (f,t),_,_,rfl,rfl,by rw [aU,hm];simp [cP],by rw [bL];exact (uR vn _).symm,bK.symm⟩
   ·clear hm bL;rintro _ _ ⟨vn,m,rows,rfl,rfl,hm,bL,EG⟩;rw [Xt,show (p.fns.zip trees).take p.fns.length=p.fns.zip trees from lS (by simp;omega)] at EG;rw [<-EG] at hlen |-;refine aW ?_;refine GW.wk (Wk.jv (t:=9) rfl rfl rfl hm) ?_
    have aab:rows=vn.map fun c=>[.v (.int .u8 (c.toNat:Int))]:=bL
    exact ay
end Go.Xg
namespace Go.Xg
open GV (U)
open Go.RowKit Go.Xw Go.Proofs Tryz
open Go.Im (fH si sj tY mP oo)
attribute [local irreducible] GW GL GO YG GC GA be bd
theorem HZ (a b:List ae) (ha:a.length<=1099511627776) (hb:b.length<=1099511627776):GF prog 118 [strs a,strs b] [] (.v (.bool (fH (fun x y=>x==y) a b))) []:=by
 have lE:(a.map fun s=>[GV.v (sv s)]).length=a.length:=by simp
 have qz:(b.map fun s=>[GV.v (sv s)]).length=b.length:=by simp
 by_cases hl:a.length=b.length
 ·have hd:(((a.map fun s=>[GV.v (sv s)]).length:Int) != ((b.map fun s=>[GV.v (sv s)]).length:Int))=false:=by rw [lE,qz,hl];simp
  refine ah func118 ntmps118 ?_;refine GW.range (a.map fun s=>[GV.v (sv s)]).length (fun k fr F=>fr=[strs a,strs b,U,U,U,U,U,U,U,U,U,U,.v (ii ((a.map fun s=>[GV.v (sv s)]).length:Int)),.v (ii (k:Nat)),U,U,U,U,U,U,U,U,U,U,U,U]/\F=[]/\tY (fun x y=>x==y) a b k) ?_ G ?_ ?_ ?_
  ·exact ⟨_,_,Wk.aE ao,rfl,rfl,fun j x y h=>by omega⟩
  ·exact iI
  ·rintro k _ _ ak ⟨rfl,rfl,lI⟩;rw [lE] at ak
   have mT:a[k]?=some a[k]:=by simp [ak]
   have qy:k < b.length:=by omega
   have pC:b[k]?=some b[k]:=by simp [qy]
   have FK:(a.map fun s=>[GV.v (sv s)])[k]?=some [GV.v (sv a[k])]:=by rw [aV,mT];rfl
   have FL:(b.map fun s=>[GV.v (sv s)])[k]?=some [GV.v (sv b[k])]:=by rw [aV,pC];rfl
   generalize a[k]=x at *;generalize b[k]=y at *
   cases lJ:(x==y) with
   | true =>
    have hn:(x != y)=false:=by simp only [bne,lJ];rfl
    have bV:(!(x==y))=false:=by rw [lJ];rfl
    refine D ?_;refine aK (aC 0 9 .nil) ?_;refine bq ?_;exact ⟨rfl,rfl,_,_,Wk.aE ao,rfl,rfl,mP mT pC lI lJ⟩
   | false =>
    have hn:(x != y)=true:=by simp only [bne,lJ];rfl
    have bV:(!(x==y))=true:=by rw [lJ];rfl
    rw [sj mT pC (p:=fun x y=>x==y) lJ];refine D ?_;refine aK (aC 0 9 .nil) ?_;refine aj ?_;exact ay
  ·rintro _ _ ⟨rfl,rfl,lI⟩;rw [lE] at lI;rw [oo hl lI];exact ay
 ·have hd:(((a.map fun s=>[GV.v (sv s)]).length:Int) != ((b.map fun s=>[GV.v (sv s)]).length:Int))=true:=by rw [lE,qz];simpa using by omega
  rw [si hl];refine ah func118 ntmps118 ?_;exact al
theorem RI (a b:List Int) (ha:a.length<=1099511627776) (hb:b.length<=1099511627776):GF prog 169 [ints a,ints b] [] (.v (.bool (fH (fun x y=>x==y) a b))) []:=by
 have lE:(a.map fun s=>[GV.v (ii s)]).length=a.length:=by simp
 have qz:(b.map fun s=>[GV.v (ii s)]).length=b.length:=by simp
 by_cases hl:a.length=b.length
 ·have hd:(((a.map fun s=>[GV.v (ii s)]).length:Int) != ((b.map fun s=>[GV.v (ii s)]).length:Int))=false:=by rw [lE,qz,hl];simp
  refine ah func169 ntmps169 ?_;refine GW.range (a.map fun s=>[GV.v (ii s)]).length (fun k fr F=>fr=[ints a,ints b,U,U,U,U,U,U,U,U,U,U,.v (ii ((a.map fun s=>[GV.v (ii s)]).length:Int)),.v (ii (k:Nat)),U,U,U,U,U,U,U,U,U,U,U,U]/\F=[]/\tY (fun x y=>x==y) a b k) ?_ G ?_ ?_ ?_
  ·exact ⟨_,_,Wk.aE ao,rfl,rfl,fun j x y h=>by omega⟩
  ·exact iI
  ·rintro k _ _ ak ⟨rfl,rfl,lI⟩;rw [lE] at ak
   have mT:a[k]?=some a[k]:=by simp [ak]
   have qy:k < b.length:=by omega
   have pC:b[k]?=some b[k]:=by simp [qy]
   have FK:(a.map fun s=>[GV.v (ii s)])[k]?=some [GV.v (ii a[k])]:=by rw [aV,mT];rfl
   have FL:(b.map fun s=>[GV.v (ii s)])[k]?=some [GV.v (ii b[k])]:=by rw [aV,pC];rfl
   generalize a[k]=x at *;generalize b[k]=y at *
   cases lJ:(x==y) with
   | true =>
    have hn:(x != y)=false:=by simp only [bne,lJ];rfl
    have bV:(!(x==y))=false:=by rw [lJ];rfl
    refine D ?_;refine aK (aC 0 9 .nil) ?_;refine bq ?_;exact ⟨rfl,rfl,_,_,Wk.aE ao,rfl,rfl,mP mT pC lI lJ⟩
   | false =>
    have hn:(x != y)=true:=by simp only [bne,lJ];rfl
    have bV:(!(x==y))=true:=by rw [lJ];rfl
    rw [sj mT pC (p:=fun x y=>x==y) lJ];refine D ?_;refine aK (aC 0 9 .nil) ?_;refine aj ?_;exact ay
  ·rintro _ _ ⟨rfl,rfl,lI⟩;rw [lE] at lI;rw [oo hl lI];exact ay
 ·have hd:(((a.map fun s=>[GV.v (ii s)]).length:Int) != ((b.map fun s=>[GV.v (ii s)]).length:Int))=true:=by rw [lE,qz];simpa using by omega
  rw [si hl];refine ah func169 ntmps169 ?_;exact al
end Go.Xg
namespace Go.Xg
open GV (U)
open Go.RowKit Go.Xw Go.Proofs Tryz
open Go.Xp (Nd)
open Go.Im (sc lN fH si sj tY mP oo)
attribute [local irreducible] GW GL GO YG GC GA be bd
theorem P2 (a b:Go.Sp.Fn) (ha:a.params.length<=1099511627776) (hb:b.params.length<=1099511627776):GF prog 121 [.agg (au a),.agg (au b)] [] (.v (.bool (sc a b))) []:=by
 have he:=HZ a.params b.params ha hb;unfold sc au
 cases L:(a.name==b.name) with
 | false =>
  refine ah func121 ntmps121 ?_;exact al
 | true =>
  cases I:fH (fun x y=>x==y) a.params b.params with
  | false =>
   rw [I] at he;refine ah func121 ntmps121 ?_;refine V [] he ?_;exact al
  | true =>
   rw [I] at he;refine ah func121 ntmps121 ?_;refine V [] he ?_;exact al
theorem KZ (a b:Nd) (ha:a.kids.length<=1099511627776) (hb:b.kids.length<=1099511627776):GF prog 123 [.agg (aw a),.agg (aw b)] [] (.v (.bool (lN a b))) []:=by
 have he:=RI a.kids b.kids ha hb;unfold lN aw;generalize fH (fun x y=>x==y) a.kids b.kids=q at *
 cases L:(a.kind==b.kind) with
 | false =>
  refine ah func123 ntmps123 ?_;exact al
 | true =>
  cases I:(a.n==b.n) with
  | false =>
   refine ah func123 ntmps123 ?_;exact al
  | true =>
   cases h3:(a.s==b.s) with
   | false =>
    refine ah func123 ntmps123 ?_;exact al
   | true =>
    refine ah func123 ntmps123 ?_;refine V [] he ?_;exact al
theorem Hi (a b:List Go.Sp.Fn) (ha:a.length<=1099511627776) (hb:b.length<=1099511627776) (ka:∀ x∈a,x.params.length<=1099511627776) (kb:∀ x∈b,x.params.length<=1099511627776) :
  GF prog 120 [.sl 3 (a.map au),.sl 3 (b.map au),.v (.func (.func 121) #[] #[])] [] (.v (.bool (fH sc a b))) []:=by
 have lE:(a.map au).length=a.length:=by simp
 have qz:(b.map au).length=b.length:=by simp
 by_cases hl:a.length=b.length
 ·have hd:(((a.map au).length:Int) != ((b.map au).length:Int))=false:=by rw [lE,qz,hl];simp
  refine ah func120 ntmps120 ?_;refine GW.range (a.map au).length (fun k fr F=>fr=[U,.sl 3 (b.map au),.v (.func (.func 121) #[] #[]),U,U,U,U,U,U,U,U,U,U,U,U,.sl 3 (a.map au),.v (ii ((a.map au).length:Int)),.v (ii (k:Nat)),U,U,U,U,U,U,U,U,U,U,U,U,U,U]/\F=[]/\tY sc a b k) ?_ G ?_ ?_ ?_
  ·exact ⟨_,_,Wk.aE ao,rfl,rfl,fun j x y h=>by omega⟩
  ·exact iI
  ·rintro k _ _ ak ⟨rfl,rfl,lI⟩;rw [lE] at ak
   have mT:a[k]?=some a[k]:=by simp [ak]
   have qy:k < b.length:=by omega
   have pC:b[k]?=some b[k]:=by simp [qy]
   have FK:(a.map au)[k]?=some (au a[k]):=by rw [aV,mT];rfl
   have FL:(b.map au)[k]?=some (au b[k]):=by rw [aV,pC];rfl
   have hs:=P2 a[k] b[k] (ka _ (getElem_mem ak)) (kb _ (getElem_mem qy));generalize a[k]=x at *;generalize b[k]=y at *;unfold au at FK FL hs
   cases lJ:sc x y with
   | true =>
    rw [lJ] at hs;refine D ?_;refine jz [] hs ?_;refine D ?_;exact ⟨rfl,rfl,_,_,(Wk.cut (n:=0) (aD _) rfl).trans (Wk.aE ao),rfl,rfl,mP mT pC lI lJ⟩
   | false =>
    rw [lJ] at hs;rw [sj mT pC (p:=sc) lJ];refine D ?_;refine jz [] hs ?_;exact ay
  ·rintro _ _ ⟨rfl,rfl,lI⟩;rw [lE] at lI;rw [oo hl lI];exact ay
 ·have hd:(((a.map au).length:Int) != ((b.map au).length:Int))=true:=by rw [lE,qz];simpa using by omega
  rw [si hl];refine ah func120 ntmps120 ?_;exact al
theorem Hj (a b:List Nd) (ha:a.length<=1099511627776) (hb:b.length<=1099511627776) (ka:∀ x∈a,x.kids.length<=1099511627776) (kb:∀ x∈b,x.kids.length<=1099511627776) :
  GF prog 122 [.sl 5 (a.map aw),.sl 5 (b.map aw),.v (.func (.func 123) #[] #[])] [] (.v (.bool (fH lN a b))) []:=by
 have lE:(a.map aw).length=a.length:=by simp
 have qz:(b.map aw).length=b.length:=by simp
 by_cases hl:a.length=b.length
 ·have hd:(((a.map aw).length:Int) != ((b.map aw).length:Int))=false:=by rw [lE,qz,hl];simp
  refine ah func122 ntmps122 ?_;refine GW.range (a.map aw).length (fun k fr F=>fr=[U,.sl 5 (b.map aw),.v (.func (.func 123) #[] #[]),U,U,U,U,U,U,U,U,U,U,U,U,.sl 5 (a.map aw),.v (ii ((a.map aw).length:Int)),.v (ii (k:Nat)),U,U,U,U,U,U,U,U,U,U,U,U,U,U]/\F=[]/\tY lN a b k) ?_ G ?_ ?_ ?_
  ·exact ⟨_,_,Wk.aE ao,rfl,rfl,fun j x y h=>by omega⟩
  ·exact iI
  ·rintro k _ _ ak ⟨rfl,rfl,lI⟩;rw [lE] at ak
   have mT:a[k]?=some a[k]:=by simp [ak]
   have qy:k < b.length:=by omega
   have pC:b[k]?=some b[k]:=by simp [qy]
   have FK:(a.map aw)[k]?=some (aw a[k]):=by rw [aV,mT];rfl
   have FL:(b.map aw)[k]?=some (aw b[k]):=by rw [aV,pC];rfl
   have hs:=KZ a[k] b[k] (ka _ (getElem_mem ak)) (kb _ (getElem_mem qy));generalize a[k]=x at *;generalize b[k]=y at *;unfold aw at FK FL hs
   cases lJ:lN x y with
   | true =>
    rw [lJ] at hs;refine D ?_;refine jz [] hs ?_;refine D ?_;exact ⟨rfl,rfl,_,_,(Wk.cut (n:=0) (aD _) rfl).trans (Wk.aE ao),rfl,rfl,mP mT pC lI lJ⟩
   | false =>
    rw [lJ] at hs;rw [sj mT pC (p:=lN) lJ];refine D ?_;refine jz [] hs ?_;exact ay
  ·rintro _ _ ⟨rfl,rfl,lI⟩;rw [lE] at lI;rw [oo hl lI];exact ay
 ·have hd:(((a.map aw).length:Int) != ((b.map aw).length:Int))=true:=by rw [lE,qz];simpa using by omega
  rw [si hl];refine ah func122 ntmps122 ?_;exact al
end Go.Xg
namespace Go.Xg
open GV (U)
open Go.RowKit Go.Xw Go.Proofs Tryz
open Go.Xp (Nd Ar)
open Go.Im (zQ fH si sj tY mP oo)
theorem V3 (w:World) (s s':ae) (n n':Int):(Op.equalIn 10000 56 (.agg #[sv s,ii n]) (.agg #[sv s',ii n'])).run prog w=.ok ((s==s')&&(n==n')) w:=by
 have hf:(prog.fieldsOf 56).toList=[(prog.fieldsOf 56)[0]!,(prog.fieldsOf 56)[1]!]:=by kernel_rfl
 have a0:((prog.fieldsOf 56)[0]!).type=9:=by kernel_rfl
 have a1:((prog.fieldsOf 56)[1]!).type=3:=by kernel_rfl
 have b0:((prog.fieldsOf 56)[0]!).offset=0:=by kernel_rfl
 have b1:((prog.fieldsOf 56)[1]!).offset=1:=by kernel_rfl
 have c0:((prog.fieldsOf 56)[0]!).name = "Name" := by kernel_rfl
 have c1:((prog.fieldsOf 56)[1]!).name = "Size" := by kernel_rfl
 rw [show (10000:Nat)=9999+1 from rfl,run_equalIn_agg w 9999 _ _ _ (by kernel_rfl) (by kernel_rfl),hf];generalize (prog.fieldsOf 56)[0]! = f0 at *;generalize (prog.fieldsOf 56)[1]! = cX at *
 have hs:prog.underlying 9=some .string:=by kernel_rfl
 have hi:prog.underlying 3=some (.int .i64):=by kernel_rfl
 have p0:∀ (a:ae) (b:Int) w,(part f0.type #[sv a,ii b] f0.offset).run prog w=.ok (sv a) w:=fun a b w=>by
  rw [a0,b0];rfl
 have p1:∀ (a:ae) (b:Int) w,(part cX.type #[sv a,ii b] cX.offset).run prog w=.ok (ii b) w:=fun a b w=>by
  rw [a1,b1];rfl
 have e0:∀ w,(Op.equalIn 9999 f0.type (sv s) (sv s')).run prog w=.ok (s==s') w:=fun w=>by
  rw [a0,show (9999:Nat)=9998+1 from rfl];have:=run_equalIn_string (P:=prog) w 9998 9 ⟨s.toArray⟩ ⟨s'.toArray⟩ hs;rw [show sv s=.string ⟨s.toArray⟩ from rfl,show sv s'=.string ⟨s'.toArray⟩ from rfl,this];simp [toList_mk]
 have e1:∀ w,(Op.equalIn 9999 cX.type (ii n) (ii n')).run prog w=.ok (n==n') w:=fun w=>by
  rw [a1,show (9999:Nat)=9998+1 from rfl];exact run_equalIn_int (P:=prog) w 9998 3 .i64 .i64 n n' hi
 have n0:f0.name ≠ "_" := by rw [c0];decide
 have n1:cX.name ≠ "_" := by rw [c1];decide
 rw [Op.eqFields,ab n0];simp only [Sem.run_bind,p0,Result.andThen_ok,e0]
 cases s==s' with
 | false=>simp
 | true =>
  simp only [Bool.not_true,Bool.false_eq_true,if_false,Bool.true_and];rw [Op.eqFields,ab n1];simp only [Sem.run_bind,p1,Result.andThen_ok,e1]
  cases n==n' with
  | false=>simp
  | true=>simp [Op.eqFields]
theorem YG.U9 {fr:List GV} {F:List Ob} {x y:Operand} {t':TypeId} {s s':ae} {n n':Int} (hx:ba fr x=.agg [.v (sv s),.v (ii n)]) (hy:ba fr y=.agg [.v (sv s'),.v (ii n')]) :
  YG prog (.binOp .neq 56 x y t') fr F (.v (.bool (!((s==s')&&(n==n'))))):=fun B K β w l hI hF=>by
 have two:∀ {v:Value} {a b:Value},Rel K β v (.agg [.v a,.v b])->v=.agg #[a,b]:=fun {v a b} h=>by
  cases h with
  | agg vs _ hl hh =>
   match vs,hl with
   | [u1,u2],_ =>
    have L:=Rel.fD (hh 0 u1 (.v a) rfl rfl);have I:=Rel.fD (hh 1 u2 (.v b) rfl rfl);rw [L,I]
 have su:=two (by rw [<-hx];exact hF.ev x);have UO:=two (by rw [<-hy];exact hF.ev y);refine ⟨_,fun d ty pos af=>?_,.v _⟩;have hg:=run_eqGuard_agg (P:=prog) w .neq 56 x y #[sv s,ii n] #[sv s',ii n'] (by kernel_rfl);have hn:=run_neq_struct (P:=prog) w 56 #[sv s,ii n] #[sv s',ii n'];rw [V3,Result.andThen_ok] at hn;simp [execOp,su,UO,hg,hn]
attribute [local irreducible] GW GL GO YG GC GA be bd
theorem RH (a b:List Ar) (ha:a.length<=1099511627776) (hb:b.length<=1099511627776):GF prog 119 [(.sl 2 (a.map fun s=>az s)),(.sl 2 (b.map fun s=>az s))] [] (.v (.bool (fH zQ a b))) []:=by
 have lE:(a.map fun s=>az s).length=a.length:=by simp
 have qz:(b.map fun s=>az s).length=b.length:=by simp
 by_cases hl:a.length=b.length
 ·have hd:(((a.map fun s=>az s).length:Int) != ((b.map fun s=>az s).length:Int))=false:=by rw [lE,qz,hl];simp
  refine ah func119 ntmps119 ?_;refine GW.range (a.map fun s=>az s).length (fun k fr F=>fr=[(.sl 2 (a.map fun s=>az s)),(.sl 2 (b.map fun s=>az s)),U,U,U,U,U,U,U,U,U,U,.v (ii ((a.map fun s=>az s).length:Int)),.v (ii (k:Nat)),U,U,U,U,U,U,U,U,U,U,U,U]/\F=[]/\tY zQ a b k) ?_ G ?_ ?_ ?_
  ·exact ⟨_,_,Wk.aE ao,rfl,rfl,fun j x y h=>by omega⟩
  ·exact iI
  ·rintro k _ _ ak ⟨rfl,rfl,lI⟩;rw [lE] at ak
   have mT:a[k]?=some a[k]:=by simp [ak]
   have qy:k < b.length:=by omega
   have pC:b[k]?=some b[k]:=by simp [qy]
   have FK:(a.map fun s=>az s)[k]?=some (az a[k]):=by rw [aV,mT];rfl
   have FL:(b.map fun s=>az s)[k]?=some (az b[k]):=by rw [aV,pC];rfl
   generalize a[k]=x at *;generalize b[k]=y at *;unfold az at FK FL
   cases lJ:zQ x y with
   | true =>
    have bV:(!((x.name==y.name)&&(x.size==y.size)))=false:=by rw [show ((x.name==y.name)&&(x.size==y.size))=zQ x y from rfl,lJ];rfl
    refine D ?_;refine aK (aC 0 9 .nil) ?_;refine aj ?_;apply OP
    ·exact rfl
    ·intro F;exact YG.U9 rfl rfl
    refine Rz ?_;refine bq ?_;exact ⟨rfl,rfl,_,_,Wk.aE ao,rfl,rfl,mP mT pC lI lJ⟩
   | false =>
    have bV:(!((x.name==y.name)&&(x.size==y.size)))=true:=by rw [show ((x.name==y.name)&&(x.size==y.size))=zQ x y from rfl,lJ];rfl
    rw [sj mT pC (p:=zQ) lJ];refine D ?_;refine aK (aC 0 9 .nil) ?_;refine aj ?_;apply OP
    ·exact rfl
    ·intro F;exact YG.U9 rfl rfl
    refine Rz ?_;refine aj ?_;exact ay
  ·rintro _ _ ⟨rfl,rfl,lI⟩;rw [lE] at lI;rw [oo hl lI];exact ay
 ·have hd:(((a.map fun s=>az s).length:Int) != ((b.map fun s=>az s).length:Int))=true:=by rw [lE,qz];simpa using by omega
  rw [si hl];refine ah func119 ntmps119 ?_;exact al
end Go.Xg
set_option maxHeartbeats 1000000
namespace Go.Xg
open GV (U)
open Go.RowKit Go.Xw Go.Proofs Tryz
open Go.Xp (Tok Nd T bz one levels ia eo eL dQ dz pj)
open Go.Sp Go.Im
attribute [local irreducible] GW GL GO YG GC GA be bd
structure H0 (f:Nat):Prop where
 expr:∀ d p t q x,p.ok->d+f<=1099511627776->iE f (.expr d) p=some (t,q)->GF prog 271 [.loc 0 0,.v (ii (d:Nat))] [bZ p x] (qT t) [bZ q x]
 level:∀ k d p t q x,p.ok->k<=9->d+f<=1099511627776->iE f (.level k d) p=some (t,q)->GF prog 282 [.loc 0 0,.v (ii (k:Nat)),.v (ii (d:Nat))] [bZ p x] (qT t) [bZ q x]
 operand:∀ d p t q x,p.ok->d+f<=1099511627776->iE f (.operand d) p=some (t,q)->GF prog 289 [.loc 0 0,.v (ii (d:Nat))] [bZ p x] (qT t) [bZ q x]
 exprs:∀ d p l q x,p.ok->d+f<=1099511627776->iA f d [] p=some (l,q)->GF prog 291 [.loc 0 0,.v (ii (d:Nat))] [bZ p x] (.sl 1 (jB l)) [bZ q x]
theorem Hf:GF prog 246 [.v (ii 0),.v (ii 0),.v (sv []),.sl 1 []] [] (qT T.zero) []:=eX 0 0 [] [] [] rfl
theorem TA {f:Nat} (C:H0 f) (d:Nat) (p:RS) (t:T) (q:RS) (x:PX) (hp:p.ok) (hd:d+(f+1)<=1099511627776) (h:iE (f+1) (.expr d) p=some (t,q)) :
  GF prog 271 [.loc 0 0,.v (ii (d:Nat))] [bZ p x] (qT t) [bZ q x]:=by
 rw [iE] at h;have eg:=wV p d x hp
 by_cases hc:(b8 p d).code=0
 ·have dP:((b8 p d).code==0)=true:=by simpa using hc
  rw [ab hc] at h;rw [dP] at eg;rw [px hc] at h eg;have hl:=C.level 0 (d+1) p t q x hp G G h;refine ah func271 ntmps271 ?_;refine V [0] eg ?_;refine V [0] hl ?_;exact al
 ·have dP:((b8 p d).code==0)=false:=by simpa using hc
  rw [M hc] at h;rw [dP] at eg;cases h;refine ah func271 ntmps271 ?_;refine V [0] eg ?_;refine V [] Hf ?_;exact al
theorem St {f:Nat} (C:∀ f',f'<=f->H0 f') (k d:Nat) (p:RS) (t:T) (q:RS) (x:PX) (hp:p.ok) (hk:k<=9) (hd:d+(f+1)<=1099511627776) (h:iE (f+1) (.level k d) p=some (t,q)) :
  GF prog 282 [.loc 0 0,.v (ii (k:Nat)),.v (ii (d:Nat))] [bZ p x] (qT t) [bZ q x]:=by
 rw [iE] at h
 by_cases BB:k=9
 ·subst BB;rw [ab rfl] at h;have ho:=(C f (aD _)).operand d p t q x hp G h;refine ah func282 ntmps282 ?_;refine V [] ur ?_;refine V [0] ho ?_;exact al
 ·rw [M BB] at h
  have Y1:((k:Int)==9)=false:=by simp;omega
  cases he:iE f (.level (k+1) d) p with
  | none=>rw [he] at h;cases h
  | some r =>
   obtain ⟨out,p1⟩:=r;rw [he] at h;simp only at h;have mz:=((jT f).1 _ _ _ _ hp he).ok hp;have hl:=(C f (aD _)).level (k+1) d p out p1 x hp G G he;refine ah func282 ntmps282 ?_;refine V [] ur ?_;refine V [0] hl ?_;refine GW.loop (fun z:Nat × T × RS=>z.1) (fun z fr F=>fr=[.loc 0 0,.v (ii (k:Nat)),.v (ii (d:Nat)),U,U,U,U,qT z.2.1,U,U,U,U,U,U,U,U,U,U,U,U,U,U,U,U,U,U,U,U,U,U,U,U,U,U,U,U,U,U,U,U,U,U,U,U,U,U,U,U,U,U,U,U,U,U,U,U,U,U,U,U,U,U,U,U]/\F=[bZ z.2.2 x]/\z.2.2.ok/\z.1<=f/\iE z.1 (.loop k d z.2.1) z.2.2=some (t,q)) (f,out,p1) ?_ ?_
   ·exact ⟨_,_,Wk.aE ao,rfl,rfl,mz,aD _,h⟩
   ·clear h he hl;rintro ⟨g,out,p⟩ _ _ ⟨rfl,rfl,hp,MD,h⟩;simp only at hp MD h
    cases g with
    | zero=>simp [iE] at h
    | succ g =>
    rw [iE] at h
    have hk:k < 9:=by omega
    have ht:=sd p 0 x hp aR
    by_cases hc:p.code=0
    ·have dP:(p.code==0)=true:=by simpa using hc
     by_cases h3:(tok p 0).kind=3
     ·have kX:((tok p 0).kind==3)=true:=by simpa using h3
      have Uu:=I4 hk;have QS:=kp (levels.getD k []) (tok p 0).s (CV k hk)
      by_cases hit:(levels.getD k []).contains (tok p 0).s=true
      ·rw [ab ⟨hc,h3,hit⟩] at h;rw [hit] at QS;have ak:p.i < p.l.length:=sF (k:=0) G;have dJ:=hp.2
       cases hb:iE g (.level (k+1) d) p.next with
       | none=>rw [hb] at h;cases h
       | some r =>
        obtain ⟨b,p2⟩:=r;rw [hb] at h;simp only at h;have dD:=(dT ak).ok hp;have eh:=((jT g).1 _ _ _ _ dD hb).ok dD
        have jc:=(C g G).level (k+1) d p.next b p2 x dD G G hb
        generalize tok p 0=tk at *;have jd:=eX 6 tk.at_ tk.s [out,b] [[qT out],[qT b]] (fX _);refine D ?_;refine aK (aC 0 7 (.a 7 (aC 8 4 (.q 13 (.q 16 (.a 12 (.q 14 (.q 15 (.a 17 (.q 18 (.a 19 (.q 20 .nil)))))))))))) ?_;refine aj ?_;refine bR [0] ht ?_;refine bR [] ur ?_;refine bR [0] ht ?_;refine bR [] QS ?_;refine D ?_;refine V [0] ht ?_;refine aK (aC 0 9 (.a 9 (.a 10 (.a 11 (.q 12 .nil))))) ?_;refine aj ?_;refine aI [0] jc ?_;refine eY ?_;refine aj ?_;refine aI [] jd ?_;refine D ?_;exact ⟨(g,one 6 tk.at_ tk.s [out,b],p2),⟨_,_,(Wk.cut (n:=1) (fO rfl) rfl).trans (Wk.aE ao),rfl,rfl,eh,by omega,h⟩,by simp⟩
      ·have hit:(levels.getD k []).contains (tok p 0).s=false:=by simpa using hit
       rw [M (by rw [hit];simp)] at h
       obtain ⟨rfl,rfl⟩:out=t/\p=q:=by simpa using h
       rw [hit] at QS;generalize tok p 0=tk at *;refine D ?_;refine aK (aC 0 7 (.a 7 (aC 8 4 (.q 13 (.q 16 (.a 12 (.q 14 (.q 15 (.a 17 (.q 18 (.a 19 (.q 20 .nil)))))))))))) ?_;refine aj ?_;refine bR [0] ht ?_;refine bR [] ur ?_;refine bR [0] ht ?_;refine bR [] QS ?_;refine cl ?_;exact ay
     ·have kX:((tok p 0).kind==3)=false:=by simpa using h3
      rw [M (fun hh=>h3 hh.2.1)] at h
      obtain ⟨rfl,rfl⟩:out=t/\p=q:=by simpa using h
      generalize tok p 0=tk at *;refine D ?_;refine aK (aC 0 7 (.a 7 (aC 8 4 (.q 13 (.q 16 (.a 12 (.q 14 (.q 15 (.a 17 (.q 18 (.a 19 (.q 20 .nil)))))))))))) ?_;refine aj ?_;refine bR [0] ht ?_;refine cl ?_;exact ay
    ·have dP:(p.code==0)=false:=by simpa using hc
     rw [M (fun hh=>hc hh.1)] at h
     obtain ⟨rfl,rfl⟩:out=t/\p=q:=by simpa using h
     refine D ?_;refine aK (aC 0 7 (.a 7 (aC 8 4 (.q 13 (.q 16 (.a 12 (.q 14 (.q 15 (.a 17 (.q 18 (.a 19 (.q 20 .nil)))))))))))) ?_;refine bq ?_;refine jY ?_;exact ay
theorem R8 {f:Nat} (C:∀ f',f'<=f->H0 f') (d:Nat) (p:RS) (l:List T) (q:RS) (x:PX) (hp:p.ok) (hd:d+(f+1)<=1099511627776) (h:iA (f+1) d [] p=some (l,q)) :
  GF prog 291 [.loc 0 0,.v (ii (d:Nat))] [bZ p x] (.sl 1 (jB l)) [bZ q x]:=by
 refine ah func291 ntmps291 ?_;refine GW.wk (Wk.C1 (t:=5) (a:=none) (c:=0) 131 1 rfl) ?_;refine GW.loop (fun z:Nat × List T × RS=>z.1) (fun z fr F=>∃ n rows,fr=[.loc 0 0,.v (ii (d:Nat)),U,U,U,.vec 1 n,U,U,U,U,U,U,U,U,U,U,U,U,U,U,U,U,U,U,U,U,U,U,U,U,U,U]/\F=[bZ z.2.2 x,.vec 131 1 0 rows]/\rows.length=n/\rows=jB z.2.1/\n+z.1<=f+1/\z.2.2.ok/\iA z.1 d z.2.1 z.2.2=some (l,q)) (f+1,[],p) ?_ ?_
 ·exact ⟨_,_,Wk.aE ao,0,[],rfl,rfl,rfl,rfl,by simp,hp,h⟩
 ·clear h hp;rintro ⟨g,acc,p⟩ _ _ ⟨n,rows,rfl,rfl,hn,bL,Aa,hp,h⟩;simp only at bL Aa hp h
  cases g with
  | zero=>simp [iA] at h
  | succ g =>
  rw [iA] at h;have hi:=kK p 0 [41] x hp aR
  have l0:acc.length=n:=by rw [<-hn,bL,ln]
  by_cases hc:p.code=0
  ·have dP:(p.code==0)=true:=by simpa using hc
   cases hs:is p 0 [41] with
   | true =>
    rw [hs] at hi;rw [M (fun hh=>by have:=hh.2;rw [hs] at this;cases this)] at h
    obtain ⟨rfl,rfl⟩:acc=l/\want p [41]=q:=by simpa using h
    have hw:=fo p [41] x hp;subst bL;refine D ?_;refine V [0] hi ?_;refine jY ?_;refine D ?_;refine cw ?_;refine D ?_;refine V [0] hw ?_;refine GW.wk (Wk.jv (t:=4) rfl rfl rfl hn) ?_;exact al
   | false =>
    rw [hs] at hi;rw [ab ⟨hc,hs⟩] at h
    by_cases h0:acc.length=0
    ·rw [ab h0] at h
     have ub:decide ((0:Int) < (n:Int))=false:=by simpa using by omega
     cases hb:iE g (.expr d) p with
     | none=>rw [hb] at h;cases h
     | some r =>
      obtain ⟨a,p2⟩:=r;rw [hb] at h;simp only at h;have eh:=((jT g).1 _ _ _ _ hp hb).ok hp;have he:=(C g G).expr d p a p2 x hp G hb;refine D ?_;refine V [0] hi ?_;refine V [0] he ?_;refine eu ?_;refine D ?_;exact ⟨(g,acc++[a],p2),⟨_,_,Wk.aE ao,_,_,rfl,rfl,by simp [hn],by rw [wo,bL],by show n+1+g<=f+1;omega,eh,h⟩,by simp⟩
    ·rw [M h0] at h
     have ub:decide ((0:Int) < (n:Int))=true:=by simpa using by omega
     have mU:=(cM hp [44]).ok hp;have hw:=fo p [44] x hp
     cases hb:iE g (.expr d) (want p [44]) with
     | none=>rw [hb] at h;cases h
     | some r =>
      obtain ⟨a,p2⟩:=r;rw [hb] at h;simp only at h;have eh:=((jT g).1 _ _ _ _ mU hb).ok mU;have he:=(C g G).expr d _ a p2 x mU G hb;refine D ?_;refine V [0] hi ?_;refine cw ?_;refine D ?_;refine V [0] hw ?_;refine V [0] he ?_;refine eu ?_;refine D ?_;exact ⟨(g,acc++[a],p2),⟨_,_,Wk.aE ao,_,_,rfl,rfl,by simp [hn],by rw [wo,bL],by show n+1+g<=f+1;omega,eh,h⟩,by simp⟩
  ·have dP:(p.code==0)=false:=by simpa using hc
   rw [M (fun hh=>hc hh.1)] at h
   obtain ⟨rfl,rfl⟩:acc=l/\want p [41]=q:=by simpa using h
   have hw:=fo p [41] x hp;subst bL;refine cl ?_;refine D ?_;refine cw ?_;refine D ?_;refine V [0] hw ?_;refine GW.wk (Wk.jv (t:=4) rfl rfl rfl hn) ?_;exact al
theorem Nx {f:Nat} (C:H0 f) (d:Nat) (p:RS) (t:T) (q:RS) (x:PX) (hp:p.ok) (hd:d+(f+1)<=1099511627776) (h:iE (f+1) (.operand d) p=some (t,q)) :
  GF prog 289 [.loc 0 0,.v (ii (d:Nat))] [bZ p x] (qT t) [bZ q x]:=by
 rw [iE] at h;have eg:=wV p d x hp;have ht:=sd p 0 x hp aR
 by_cases hc:(b8 p d).code=0
 case neg =>
  have dP:((b8 p d).code==0)=false:=by simpa using hc
  rw [M hc] at h;rw [dP] at eg;cases h;refine ah func289 ntmps289 ?_;refine V [0] ht ?_;refine V [0] eg ?_;refine V [] Hf ?_;exact al
 case pos =>
 have dP:((b8 p d).code==0)=true:=by simpa using hc
 rw [ab hc] at h;rw [dP,px hc] at eg;clear hc dP;have L:=kK p 0 [45] x hp aR;have I:=kK p 0 [33] x hp aR;have h3:=kK p 0 [126] x hp aR;have dJ:=hp.2;have DT:=hp.1
 cases iy:is p 0 [45] with
 | true =>
  rw [iy] at L;rw [ab (.inl iy)] at h;have ak:p.i < p.l.length:=is_lt (k:=0) iy;have dD:=(dT ak).ok hp
  cases hb:iE f (.operand (d+1)) p.next with
  | none=>rw [hb] at h;cases h
  | some r =>
   obtain ⟨b,p2⟩:=r;rw [hb] at h;cases h
   have yA:=C.operand (d+1) p.next b _ x dD G hb
   generalize tok p 0=tk at *;have jd:=eX 5 tk.at_ tk.s [b] [[qT b]] (fX _);refine ah func289 ntmps289 ?_;refine V [0] ht ?_;refine V [0] eg ?_;refine V [0] L ?_;refine aK (aC 0 7 (.a 7 (.a 8 (.a 9 (.q 10 .nil))))) ?_;refine aj ?_;refine aI [0] yA ?_;refine eY ?_;refine aj ?_;refine aI [] jd ?_;exact ay
 | false =>
 rw [iy] at L
 cases jR:is p 0 [33] with
 | true =>
  rw [jR] at I;rw [ab (.inr (.inl jR))] at h;have ak:p.i < p.l.length:=is_lt (k:=0) jR;have dD:=(dT ak).ok hp
  cases hb:iE f (.operand (d+1)) p.next with
  | none=>rw [hb] at h;cases h
  | some r =>
   obtain ⟨b,p2⟩:=r;rw [hb] at h;cases h
   have yA:=C.operand (d+1) p.next b _ x dD G hb
   generalize tok p 0=tk at *;have jd:=eX 5 tk.at_ tk.s [b] [[qT b]] (fX _);refine ah func289 ntmps289 ?_;refine V [0] ht ?_;refine V [0] eg ?_;refine V [0] L ?_;refine V [0] I ?_;refine aK (aC 0 7 (.a 7 (.a 8 (.a 9 (.q 10 .nil))))) ?_;refine aj ?_;refine aI [0] yA ?_;refine eY ?_;refine aj ?_;refine aI [] jd ?_;exact ay
 | false =>
 rw [jR] at I
 cases sZ:is p 0 [126] with
 | true =>
  rw [sZ] at h3;rw [ab (.inr (.inr sZ))] at h;have ak:p.i < p.l.length:=is_lt (k:=0) sZ;have dD:=(dT ak).ok hp
  cases hb:iE f (.operand (d+1)) p.next with
  | none=>rw [hb] at h;cases h
  | some r =>
   obtain ⟨b,p2⟩:=r;rw [hb] at h;cases h
   have yA:=C.operand (d+1) p.next b _ x dD G hb
   generalize tok p 0=tk at *;have jd:=eX 5 tk.at_ tk.s [b] [[qT b]] (fX _);refine ah func289 ntmps289 ?_;refine V [0] ht ?_;refine V [0] eg ?_;refine V [0] L ?_;refine V [0] I ?_;refine V [0] h3 ?_;refine aK (aC 0 7 (.a 7 (.a 8 (.a 9 (.q 10 .nil))))) ?_;refine aj ?_;refine aI [0] yA ?_;refine eY ?_;refine aj ?_;refine aI [] jd ?_;exact ay
 | false =>
 rw [sZ] at h3;rw [M (by rw [iy,jR,sZ];decide)] at h
 by_cases hk:(tok p 0).kind=1
 case pos =>
  rw [ab hk] at h;have ak:p.i < p.l.length:=sF (k:=0) G
  have mx:((tok p 0).kind==1)=true:=by simpa using hk
  cases h;generalize tok p 0=tk at *;have jd:=Nu 1 tk.at_ [] [];refine ah func289 ntmps289 ?_;refine V [0] ht ?_;refine V [0] eg ?_;refine V [0] L ?_;refine V [0] I ?_;refine V [0] h3 ?_;refine V [] jd ?_;refine GW.wk (Wk.freeze (i:=2) rfl rfl rfl (fO rfl)) ?_;exact al
 case neg =>
 rw [M hk] at h
 have mx:((tok p 0).kind==1)=false:=by simpa using hk
 have h4:=kK p 0 [40] x hp aR
 cases vW:is p 0 [40] with
 | true =>
  rw [vW] at h4;rw [ab vW] at h;have ak:p.i < p.l.length:=is_lt (k:=0) vW;have dD:=(dT ak).ok hp
  cases hb:iE f (.expr (d+1)) p.next with
  | none=>rw [hb] at h;cases h
  | some r =>
   obtain ⟨b,p2⟩:=r;rw [hb] at h;cases h;have eh:=((jT f).1 _ _ _ _ dD hb).ok dD
   have yA:=C.expr (d+1) p.next _ p2 x dD G hb
   have hw:=fo p2 [41] x eh;generalize tok p 0=tk at *;refine ah func289 ntmps289 ?_;refine V [0] ht ?_;refine V [0] eg ?_;refine V [0] L ?_;refine V [0] I ?_;refine V [0] h3 ?_;refine V [0] h4 ?_;refine V [0] yA ?_;refine cw ?_;refine D ?_;refine V [0] hw ?_;exact al
 | false =>
 rw [vW] at h4;rw [M (by rw [vW];decide)] at h;have hn:=rI p x hp;have dD:=(iG hp).ok hp
 by_cases mQ:(bD p).code=0
 case neg =>
  rw [M mQ] at h
  have YS:((bD p).code != 0)=true:=by simpa using mQ
  cases h;generalize tok p 0=tk at *;generalize bD p=p1 at *;have jd:=eX 2 tk.at_ tk.s [] [] rfl;refine ah func289 ntmps289 ?_;refine V [0] ht ?_;refine V [0] eg ?_;refine V [0] L ?_;refine V [0] I ?_;refine V [0] h3 ?_;refine V [0] h4 ?_;refine V [0] hn ?_;refine V [] jd ?_;exact al
 case pos =>
 rw [ab mQ] at h
 have YS:((bD p).code != 0)=false:=by simpa using mQ
 generalize bD p=p1 at *;generalize tok p 0=tk at *;have h5:=kK p1 0 [91] x dD aR;have aap:=dD.2;have aao:=dD.1
 cases FQ:is p1 0 [91] with
 | true =>
  rw [FQ] at h5;rw [ab FQ] at h;have ak:p1.i < p1.l.length:=is_lt (k:=0) FQ;have FJ:=(dT ak).ok dD
  cases hb:iE f (.expr (d+1)) p1.next with
  | none=>rw [hb] at h;cases h
  | some r =>
   obtain ⟨b,p2⟩:=r;rw [hb] at h;cases h;have eh:=((jT f).1 _ _ _ _ FJ hb).ok FJ
   have yA:=C.expr (d+1) p1.next b p2 x FJ G hb
   have hw:=fo p2 [93] x eh;have jd:=eX 3 tk.at_ tk.s [b] [[qT b]] (fX _);refine ah func289 ntmps289 ?_;refine V [0] ht ?_;refine V [0] eg ?_;refine V [0] L ?_;refine V [0] I ?_;refine V [0] h3 ?_;refine V [0] h4 ?_;refine V [0] hn ?_;refine V [0] h5 ?_;refine V [0] yA ?_;refine cw ?_;refine D ?_;refine V [0] hw ?_;refine cw ?_;refine D ?_;refine V [] jd ?_;exact al
 | false =>
 rw [FQ] at h5;rw [M (by rw [FQ];decide)] at h;have h6:=kK p1 0 [40] x dD aR
 cases FT:is p1 0 [40] with
 | true =>
  rw [FT] at h6;rw [ab FT] at h;have ak:p1.i < p1.l.length:=is_lt (k:=0) FT;have FJ:=(dT ak).ok dD
  cases hb:iA f (d+1) [] p1.next with
  | none=>rw [hb] at h;cases h
  | some r =>
   obtain ⟨b,p2⟩:=r;rw [hb] at h;cases h
   have yA:=C.exprs (d+1) p1.next b _ x FJ G hb
   have jd:=eX 4 tk.at_ tk.s b (jB b) rfl;refine ah func289 ntmps289 ?_;refine V [0] ht ?_;refine V [0] eg ?_;refine V [0] L ?_;refine V [0] I ?_;refine V [0] h3 ?_;refine V [0] h4 ?_;refine V [0] hn ?_;refine V [0] h5 ?_;refine V [0] h6 ?_;refine aK (aC 0 6 (.a 6 (.a 7 (.q 8 .nil)))) ?_;refine aj ?_;refine aI [0] yA ?_;refine aI [] jd ?_;exact ay
 | false =>
  rw [FT] at h6;rw [M (by rw [FT];decide)] at h;cases h;have jd:=eX 2 tk.at_ tk.s [] [] rfl;refine ah func289 ntmps289 ?_;refine V [0] ht ?_;refine V [0] eg ?_;refine V [0] L ?_;refine V [0] I ?_;refine V [0] h3 ?_;refine V [0] h4 ?_;refine V [0] hn ?_;refine V [0] h5 ?_;refine V [0] h6 ?_;refine V [] jd ?_;exact al
theorem XO (f:Nat):H0 f:=by
 induction f using Nat.strongRecOn with
 | _ f ih =>
  cases f with
  | zero=>exact ⟨fun d p t q x _ _ h=>by simp [iE] at h,fun k d p t q x _ _ _ h=>by simp [iE] at h,fun d p t q x _ _ h=>by simp [iE] at h,fun d p l q x _ _ h=>by simp [iA] at h⟩
  | succ f =>
   have C:=ih f (Nat.lt_succ_self f)
   have Cs:∀ f',f'<=f->H0 f':=fun f' h=>ih f' (Nat.lt_succ_of_le h)
   exact ⟨fun d p t q x hp hd h=>TA C d p t q x hp hd h,fun k d p t q x hp hk hd h=>St Cs k d p t q x hp hk hd h,fun d p t q x hp hd h=>Nx C d p t q x hp hd h,fun d p l q x hp hd h=>R8 Cs d p l q x hp hd h⟩
end Go.Xg
namespace Go.Im
open Go.Xp Go.Sp
def Vu (f d:Nat) (p:RS):Option (T × RS) :=
 if (tok p 0).kind=2/\is p 1 [61]=true then match iE f (.expr (d+1)) (want (bD p) [61]) with
  | none=>none
  | some (e,q)=>some (one 7 (tok p 0).at_ (tok p 0).s [e],want q [59])
 else match iE f (.expr (d+1)) p with
  | none=>none
  | some (e,q) =>
   if xv p q e then match e.kids,iE f (.expr (d+1)) (want q [61]) with
    | a::_,some (v,q)=>some (one 8 (tok p 0).at_ e.n.s [a,v],want q [59])
    | _,_=>none
   else some (one 12 (tok p 0).at_ [] [e],want q [59])
end Go.Im
namespace Go.Xg
open GV (U)
open Go.RowKit Go.Xw Go.Proofs Tryz
open Go.Xp (Tok Nd T bz one levels ia eo eL dQ dz pj)
open Go.Sp Go.Im
attribute [local irreducible] GW GL GO YG GC GA be bd
theorem P9 {f:Nat} (d:Nat) (p:RS) (t:T) (q:RS) (x:PX) (hp:p.ok) (hd:d+1+f<=1099511627776) (h:Vu f d p=some (t,q)) :
  GF prog 272 [.loc 0 0,.v (ii (d:Nat))] [bZ p x] (qT t) [bZ q x]:=by
 unfold Vu at h;have C:=XO f;have ht:=sd p 0 x hp aR;have hi:=kK p 1 [61] x hp aR
 have main:∀ kk,((tok p 0).kind==2)=kk->(kk=true->is p 1 [61]=false)->GF prog 272 [.loc 0 0,.v (ii (d:Nat))] [bZ p x] (qT t) [bZ q x]:=by
  intro kk hk sW
  rw [M (fun hh=>by
   have L:kk=true:=by rw [<-hk];simpa using hh.1
   have I:=sW L
   rw [hh.2] at I;cases I)] at h
  cases he:iE f (.expr (d+1)) p with
  | none=>rw [he] at h;cases h
  | some r =>
   obtain ⟨e,q1⟩:=r;rw [he] at h;simp only at h;have pD:=((jT f).1 _ _ _ _ hp he).ok hp;have aav:=pD.1;have aaw:=pD.2;have hex:=C.expr (d+1) p e q1 x hp G he;have QV:=kK q1 0 [61] x pD aR
   have Fu:e.n.kind=3->q1.code=0->∃ Al,q1.l[q1.i - 1]?=some Al/\vc q1=Al.s/\1<=q1.i:=by
    intro _ hc;have L:=UR f _ _ _ _ hp he hc (fun k d out h=>by cases h);have I:=pD.1
    have ak:q1.i - 1 < q1.l.length:=by omega
    exact ⟨q1.l[q1.i - 1],by simp [ak],by unfold vc;simp [ak],by omega⟩
   by_cases ke:xv p q1 e
   ·rw [ab ke] at h;have lG:=ke;obtain ⟨s1,s2,s3,s4,s5,s6⟩:=lG;obtain ⟨Al,a1,a2,a3⟩:=Fu s1 s2
    have gL:kk=true:=by rw [<-hk];simpa using s5
    subst gL;have z6:=sW rfl;rw [z6] at hi;rw [s6] at QV
    match DQ:e.kids,hv:iE f (.expr (d+1)) (want q1 [61]),h with
    | a::rk,some (v,q2),h =>
     cases h;have mU:=(cM pD [61]).ok pD;have BI:=((jT f).1 _ _ _ _ mU hv).ok mU;have hw:=fo q1 [61] x pD;have YX:=C.expr (d+1) _ v q2 x mU G hv;have pE:=fo q2 [59] x BI;have hr:=lq a1;have ea:(jB e.kids)[0]?=some [qT a]:=yU (by rw [DQ];rfl);have Q3:(jB (a::rk))[0]?=some [qT a]:=yU rfl
     have b1:(e.n.kind==3)=true:=by simpa using s1
     have b2:(q1.code==0)=true:=by simpa using s2
     have b3:(Al.s==[93])=true:=by rw [<-a2];simpa using s3
     have b4:(e.n.at_==(tok p 0).at_)=true:=by simpa using s4
     have jd:=eX 8 (tok p 0).at_ e.n.s [a,v] [[qT a],[qT v]] (fX _);generalize tok p 0=tk at *;refine ah func272 ntmps272 ?_;refine V [0] ht ?_;refine V [0] hi ?_;refine V [0] hex ?_;refine aK (aC 0 45 (.a 45 (.q 46 .nil))) ?_;refine aj ?_;refine bR [0] QV ?_;refine D ?_;refine cw ?_;refine D ?_;refine V [0] hw ?_;refine V [0] YX ?_;refine cw ?_;refine D ?_;refine V [0] pE ?_;refine aK (aC 0 14 (.a 14 (.a 15 (.q 16 .nil)))) ?_;refine aj ?_;refine eY ?_;refine aj ?_;refine aI [] jd ?_;exact ay
    | [],_,h=>simp at h
    | _::_,none,h=>simp at h
   ·rw [M ke] at h;cases h;have hw:=fo q1 [59] x pD;have jd:=eX 12 (tok p 0).at_ [] [e] [[qT e]] (fX _)
    cases kk with
    | true =>
     have z6:=sW rfl;rw [z6] at hi;refine ah func272 ntmps272 ?_;refine V [0] ht ?_;refine V [0] hi ?_;refine V [0] hex ?_;refine GW.join (fun fr F=>fr=[.loc 0 0,.v (ii (d:Nat)),U,U,U,.loc 1 0,U,U,qT e,U,U,U,U,U,U,U,U,U,U,U,U,U,U,U,U,U,U,U,U,U,U,U,U,U,U,U,U,U,U,U,U,U,U,U,U,U,U,U,U,U,U,U,U,U,U,U,U,U,U,U,U,U,U,U,U,U,U,U,U,U,U,U,U,U,U,U,U,U,U,U,U,U,U,U,U,U,U,.v (.bool false),U,U,U,U,U,U,U,U,U,U,U,U,U,U,U,U,U,U,U,U,U,U,U,U,U,U,U,U,U,U,U,U,U,U]/\F=[bZ q1 x,.box 183 (dw (tok p 0))]) ?_ ?_
     ·by_cases s1:e.n.kind=3
      ·have b1:(e.n.kind==3)=true:=by simpa using s1
       by_cases s2:q1.code=0
       ·have b2:(q1.code==0)=true:=by simpa using s2
        obtain ⟨Al,a1,a2,a3⟩:=Fu s1 s2;have hr:=lq a1
        by_cases s3:vc q1=[93]
        ·have b3:(Al.s==[93])=true:=by rw [<-a2];simpa using s3
         by_cases s4:e.n.at_=(tok p 0).at_
         ·have b4:(e.n.at_==(tok p 0).at_)=true:=by simpa using s4
          have s6:is q1 0 [61]=false:=by
           cases h6:is q1 0 [61] with
           | false=>rfl
           | true=>exact absurd ⟨s1,s2,s3,s4,by simpa using hk,h6⟩ ke
          rw [s6] at QV;generalize tok p 0=tk at *;refine aK (aC 0 45 (.a 45 (.q 46 .nil))) ?_;refine aj ?_;refine bR [0] QV ?_;exact ja
         ·have b4:(e.n.at_==(tok p 0).at_)=false:=by simpa using s4
          generalize tok p 0=tk at *;refine aK (aC 0 45 (.a 45 (.q 46 .nil))) ?_;refine bq ?_;exact kh
        ·have b3:(Al.s==[93])=false:=by rw [<-a2];simpa using s3
         generalize tok p 0=tk at *;refine aK (aC 0 45 (.a 45 (.q 46 .nil))) ?_;refine bq ?_;exact kh
       ·have b2:(q1.code==0)=false:=by simpa using s2
        generalize tok p 0=tk at *;refine aK (aC 0 45 (.a 45 (.q 46 .nil))) ?_;refine bq ?_;exact kh
      ·have b1:(e.n.kind==3)=false:=by simpa using s1
       generalize tok p 0=tk at *;refine aK (aC 0 45 (.a 45 (.q 46 .nil))) ?_;refine bq ?_;exact kh
     ·rintro _ _ ⟨rfl,rfl⟩;generalize tok p 0=tk at *;refine D ?_;refine cw ?_;refine D ?_;refine V [0] hw ?_;refine cw ?_;refine D ?_;refine V [] jd ?_;exact al
    | false =>
     refine ah func272 ntmps272 ?_;refine V [0] ht ?_;refine V [0] hex ?_;refine GW.join (fun fr F=>fr=[.loc 0 0,.v (ii (d:Nat)),U,U,U,.loc 1 0,U,U,qT e,U,U,U,U,U,U,U,U,U,U,U,U,U,U,U,U,U,U,U,U,U,U,U,U,U,U,U,U,U,U,U,U,U,U,U,U,U,U,U,U,U,U,U,U,U,U,U,U,U,U,U,U,U,U,U,U,U,U,U,U,U,U,U,U,U,U,U,U,U,U,U,U,U,U,U,U,U,U,.v (.bool false),U,U,U,U,U,U,U,U,U,U,U,U,U,U,U,U,U,U,U,U,U,U,U,U,U,U,U,U,U,U,U,U,U,U]/\F=[bZ q1 x,.box 183 (dw (tok p 0))]) ?_ ?_
     ·by_cases s1:e.n.kind=3
      ·have b1:(e.n.kind==3)=true:=by simpa using s1
       by_cases s2:q1.code=0
       ·have b2:(q1.code==0)=true:=by simpa using s2
        obtain ⟨Al,a1,a2,a3⟩:=Fu s1 s2;have hr:=lq a1
        by_cases s3:vc q1=[93]
        ·have b3:(Al.s==[93])=true:=by rw [<-a2];simpa using s3
         by_cases s4:e.n.at_=(tok p 0).at_
         ·have b4:(e.n.at_==(tok p 0).at_)=true:=by simpa using s4
          generalize tok p 0=tk at *;refine aK (aC 0 45 (.a 45 (.q 46 .nil))) ?_;refine bq ?_;exact kh
         ·have b4:(e.n.at_==(tok p 0).at_)=false:=by simpa using s4
          generalize tok p 0=tk at *;refine aK (aC 0 45 (.a 45 (.q 46 .nil))) ?_;refine bq ?_;exact kh
        ·have b3:(Al.s==[93])=false:=by rw [<-a2];simpa using s3
         generalize tok p 0=tk at *;refine aK (aC 0 45 (.a 45 (.q 46 .nil))) ?_;refine bq ?_;exact kh
       ·have b2:(q1.code==0)=false:=by simpa using s2
        generalize tok p 0=tk at *;refine aK (aC 0 45 (.a 45 (.q 46 .nil))) ?_;refine bq ?_;exact kh
      ·have b1:(e.n.kind==3)=false:=by simpa using s1
       generalize tok p 0=tk at *;refine aK (aC 0 45 (.a 45 (.q 46 .nil))) ?_;refine bq ?_;exact kh
     ·rintro _ _ ⟨rfl,rfl⟩;generalize tok p 0=tk at *;refine D ?_;refine cw ?_;refine D ?_;refine V [0] hw ?_;refine cw ?_;refine D ?_;refine V [] jd ?_;exact al
 by_cases hk:(tok p 0).kind=2
 ·cases z6:is p 1 [61] with
  | true =>
   clear main;rw [ab ⟨hk,z6⟩] at h;rw [z6] at hi
   have mx:((tok p 0).kind==2)=true:=by simpa using hk
   have hn:=rI p x hp;have dD:=(iG hp).ok hp;have hw:=fo (bD p) [61] x dD;have mU:=(cM dD [61]).ok dD
   cases he:iE f (.expr (d+1)) (want (bD p) [61]) with
   | none=>rw [he] at h;cases h
   | some r =>
    obtain ⟨e,q1⟩:=r;rw [he] at h;cases h;have pD:=((jT f).1 _ _ _ _ mU he).ok mU;have hex:=C.expr (d+1) _ e q1 x mU G he;have pE:=fo q1 [59] x pD;have jd:=eX 7 (tok p 0).at_ (tok p 0).s [e] [[qT e]] (fX _);generalize tok p 0=tk at *;refine ah func272 ntmps272 ?_;refine V [0] ht ?_;refine V [0] hi ?_;refine V [0] hn ?_;refine cw ?_;refine D ?_;refine V [0] hw ?_;refine V [0] hex ?_;refine cw ?_;refine D ?_;refine V [0] pE ?_;refine cw ?_;refine D ?_;refine V [] jd ?_;exact al
  | false=>exact main true (by simpa using hk) (fun _=>z6)
 ·exact main false (by simpa using hk) (fun h=>by cases h)
end Go.Xg
namespace Go.Xg
open GV (U)
open Go.RowKit Go.Xw Go.Proofs Tryz
open Go.Xp (Tok Nd T bz one levels ia eo eL dQ dz pj rv)
open Go.Sp Go.Im
attribute [local irreducible] GW GL GO YG GC GA be bd
theorem Nt (k a:Int) (s:ae):GF prog 246 [.v (ii k),.v (ii a),.v (sv s),.v (.slice none 0 0)] [] (.loc 0 0) [.box 170 [.v (ii k),.v (ii a),.v (ii 0),.v (sv s),.v (.slice none 0 0),.v (.slice none 0 0)]]:=by
 refine ah func246 ntmps246 ?_;refine GW.wk (Wk.cells 0 rfl (ds:=[.v (ii k),.v (ii a),.v (ii 0),.v (sv s),.v (.slice none 0 0),.v (.slice none 0 0)]) ik) ?_;refine GW.ret ?_;refine CM (n:=1) rfl dF rfl (aM _) rfl rfl ?_;exact ⟨rfl,rfl⟩
structure Qv (f:Nat):Prop where
 block:∀ d p t q x,p.ok->d+3+f<=1099511627776->iS f (.block d) p=some (t,q)->GF prog 210 [.loc 0 0,.v (ii (d:Nat))] [bZ p x] (qT t) [bZ q x]
 stmt:∀ d p t q x,p.ok->d+3+f<=1099511627776->iS f (.stmt d) p=some (t,q)->GF prog 248 [.loc 0 0,.v (ii (d:Nat))] [bZ p x] (qT t) [bZ q x]
theorem RV {f:Nat} (C:∀ f',f'<=f->Qv f') (d:Nat) (p:RS) (t:T) (q:RS) (x:PX) (hp:p.ok) (hd:d+3+(f+1)<=1099511627776) (h:iS (f+1) (.block d) p=some (t,q)) :
  GF prog 210 [.loc 0 0,.v (ii (d:Nat))] [bZ p x] (qT t) [bZ q x]:=by
 rw [iS] at h;have eg:=wV p d x hp;have ht:=sd p 0 x hp aR;have DR:=Nt 14 (tok p 0).at_ []
 by_cases hc:(b8 p d).code=0
 case neg =>
  have dP:((b8 p d).code==0)=false:=by simpa using hc
  rw [M hc] at h;rw [dP] at eg;cases h;generalize tok p 0=tk at *;refine ah func210 ntmps210 ?_;refine V [0] ht ?_;refine V [] DR ?_;refine V [0] eg ?_;refine GW.wk (Wk.cells 1 rfl (ds:=[.v (ii 14),.v (ii tk.at_),.v (ii 0),.v (sv []),.v (.slice none 0 0),.sl 1 []]) ik) ?_;refine GW.wk (Wk.freeze (i:=1) rfl rfl rfl (fO rfl)) ?_;exact al
 case pos =>
 have dP:((b8 p d).code==0)=true:=by simpa using hc
 rw [ab hc] at h;rw [dP,px hc] at eg;clear hc dP;have mU:=(cM hp [123]).ok hp;have hw:=fo p [123] x hp
 cases he:iB f (d+1) [] (want p [123]) with
 | none=>rw [he] at h;cases h
 | some r =>
  obtain ⟨l,q1⟩:=r;rw [he] at h;cases h;generalize tok p 0=tk at *;refine ah func210 ntmps210 ?_;refine V [0] ht ?_;refine V [] DR ?_;refine V [0] eg ?_;refine cw ?_;refine D ?_;refine V [0] hw ?_;refine GW.wk (Wk.Gj (i:=1) (o:=5) 131 1 rfl rfl) ?_;refine GW.loop (fun z:Nat × List T × RS=>z.1) (fun z fr F=>∃ n rows,fr=[.loc 0 0,.v (ii (d:Nat)),U,U,U,.loc 1 0,U,U,U,U,U,U,U,U,U,U,U,U,U,U,U,U,U,U,U,U,U,U,U,U,U,U,U,U,U,U,U,U,U,U,U,U,U,U,U]/\F=[bZ z.2.2 x,.box 170 [.v (ii 14),.v (ii tk.at_),.v (ii 0),.v (sv []),.v (.slice none 0 0),.vec 2 n],.vec 131 1 0 rows]/\rows.length=n/\rows=jB z.2.1/\n+z.1<=f/\z.2.2.ok/\iB z.1 (d+1) z.2.1 z.2.2=some (l,q1)) (f,[],want p [123]) ?_ ?_
  ·exact ⟨_,_,Wk.aE ao,0,[],rfl,rfl,rfl,rfl,by simp,mU,he⟩
  ·clear he mU hw eg ht;rintro ⟨g,acc,p⟩ _ _ ⟨n,rows,rfl,rfl,hn,bL,Aa,hp,h⟩;simp only at bL Aa hp h
   cases g with
   | zero=>simp [iB] at h
   | succ g =>
   rw [iB] at h;have hi:=kK p 0 [125] x hp aR
   by_cases hc:p.code=0
   ·have dP:(p.code==0)=true:=by simpa using hc
    cases hs:is p 0 [125] with
    | true =>
     rw [hs] at hi;rw [M (fun hh=>by have:=hh.2;rw [hs] at this;cases this)] at h
     obtain ⟨rfl,rfl⟩:acc=l/\p=q1:=by simpa using h
     have hw:=fo p [125] x hp;subst bL;refine D ?_;refine V [0] hi ?_;refine jY ?_;refine D ?_;refine cw ?_;refine D ?_;refine V [0] hw ?_;refine GW.wk (Wk.tw (i:=1) (o:=5) rfl rfl rfl rfl hn) ?_;refine GW.wk (Wk.freeze (i:=1) rfl rfl rfl (fO rfl)) ?_;exact al
    | false =>
     rw [hs] at hi;rw [ab ⟨hc,hs⟩] at h
     cases hb:iS g (.stmt (d+1)) p with
     | none=>rw [hb] at h;cases h
     | some r =>
      obtain ⟨a,p2⟩:=r;rw [hb] at h;simp only at h;have eh:=((EI g).1 _ _ _ _ hp hb).ok hp;have cz:=(C g G).stmt (d+1) p a p2 x hp G hb;refine D ?_;refine V [0] hi ?_;refine aK (aC 0 8 (.a 8 (.a 9 (.a 10 (.q 11 (.q 12 (.a 13 .nil))))))) ?_;refine aj ?_;refine aI [0] cz ?_;refine eY ?_;refine aj ?_;refine zG ?_;refine bq ?_;exact ⟨(g,acc++[a],p2),⟨_,_,Wk.aE ao,_,_,rfl,rfl,by simp [hn],by rw [wo,bL];rfl,by show n+1+g<=f;omega,eh,h⟩,by simp⟩
   ·have dP:(p.code==0)=false:=by simpa using hc
    rw [M (fun hh=>hc hh.1)] at h
    obtain ⟨rfl,rfl⟩:acc=l/\p=q1:=by simpa using h
    have hw:=fo p [125] x hp;subst bL;refine cl ?_;refine D ?_;refine cw ?_;refine D ?_;refine V [0] hw ?_;refine GW.wk (Wk.tw (i:=1) (o:=5) rfl rfl rfl rfl hn) ?_;refine GW.wk (Wk.freeze (i:=1) rfl rfl rfl (fO rfl)) ?_;exact al
theorem Vz {f:Nat} (C:Qv f) (d:Nat) (p:RS) (t:T) (q:RS) (x:PX) (hp:p.ok) (hd:d+3+(f+1)<=1099511627776) (h:iS (f+1) (.stmt d) p=some (t,q)) :
  GF prog 248 [.loc 0 0,.v (ii (d:Nat))] [bZ p x] (qT t) [bZ q x]:=by
 rw [iS] at h;have E:=XO f;have eg:=wV p d x hp;have ht:=sd p 0 x hp aR
 by_cases hc:(b8 p d).code=0
 case neg =>
  have dP:((b8 p d).code==0)=false:=by simpa using hc
  rw [M hc] at h;rw [dP] at eg;cases h;refine ah func248 ntmps248 ?_;refine V [0] ht ?_;refine V [0] eg ?_;refine V [] Hf ?_;exact al
 case pos =>
 have dP:((b8 p d).code==0)=true:=by simpa using hc
 rw [ab hc] at h;rw [dP,px hc] at eg;clear hc dP;have dJ:=hp.2;have DT:=hp.1;have L:=kK p 0 ia x hp aR;have I:=kK p 0 eo x hp aR;have h3:=kK p 0 dQ x hp aR;have h4:=kK p 0 dz x hp aR
 cases iy:is p 0 ia with
 | true =>
  rw [iy] at L;rw [ab iy] at h;have ak:p.i < p.l.length:=is_lt (k:=0) iy;have dD:=(dT ak).ok hp
  have hn:=rI p.next x dD
  have ri:=(iG dD).ok dD;have hw:=fo _ [61] x ri;have mU:=(cM ri [61]).ok ri
  cases he:iE f (.expr (d+1)) (want (bD p.next) [61]) with
  | none=>rw [he] at h;cases h
  | some r =>
   obtain ⟨e,q1⟩:=r;rw [he] at h;cases h;have pD:=((jT f).1 _ _ _ _ mU he).ok mU;have hex:=E.expr (d+1) _ e q1 x mU G he;have pE:=fo q1 [59] x pD;have jd:=eX 13 (tok p 0).at_ (tok p.next 0).s [e] [[qT e]] (fX _);generalize tok p 0=tk at *
   generalize tok p.next 0=tn at *
   refine ah func248 ntmps248 ?_;refine V [0] ht ?_;refine V [0] eg ?_;refine V [0] L ?_;refine V [0] hn ?_;refine cw ?_;refine D ?_;refine V [0] hw ?_;refine V [0] hex ?_;refine cw ?_;refine D ?_;refine V [0] pE ?_;refine cw ?_;refine D ?_;refine V [] jd ?_;exact al
 | false =>
 rw [iy] at L;rw [M (by rw [iy];decide)] at h
 have main:∀ bi bw:Bool,is p 0 eo=bi->is p 0 dQ=bw->(bi=true\/bw=true)->GF prog 248 [.loc 0 0,.v (ii (d:Nat))] [bZ p x] (qT t) [bZ q x]:=by
  intro bi bw vR Xl vU
  have n7:is p 0 eo=true\/is p 0 dQ=true:=by rw [vR,Xl];exact vU
  have ak:p.i < p.l.length:=by rcases n7 with hh | hh <;> exact is_lt (k:=0) hh
  rw [ab n7] at h;have dD:=(dT ak).ok hp
  have hw:=fo p.next [40] x dD
  have mU:=(cM dD [40]).ok dD
  cases he:iE f (.expr (d+1)) (want p.next [40]) with
  | none=>rw [he] at h;cases h
  | some r =>
  obtain ⟨c,q1⟩:=r;rw [he] at h;simp only at h;have pD:=((jT f).1 _ _ _ _ mU he).ok mU;have hex:=E.expr (d+1) _ c q1 x mU G he;have pE:=fo q1 [41] x pD;have Q2:=(cM pD [41]).ok pD
  cases hb:iS f (.block (d+1)) (want q1 [41]) with
  | none=>rw [hb] at h;cases h
  | some r =>
  obtain ⟨b,q2⟩:=r;rw [hb] at h;simp only at h;have BI:=((EI f).1 _ _ _ _ Q2 hb).ok Q2;have aay:=BI.2;have aax:=BI.1;have dZ:=C.block (d+1) _ b q2 x Q2 G hb;have eI:=kK q2 0 eL x BI aR;rw [vR] at I;rw [Xl] at h3
  cases bi with
  | true =>
   have Kn:∀ (cc ee:Bool),(q2.code==0)=cc->is q2 0 eL=ee->(cc=false\/ee=false)->GF prog 248 [.loc 0 0,.v (ii (d:Nat))] [bZ p x] (qT t) [bZ q x]:=by
    intro cc ee ud xG UD
    rw [M (fun hh=>by
     rcases UD with h0 | h0
     ·rw [h0] at ud;have:=hh.2.1;simp [this] at ud
     ·rw [h0] at xG;rw [xG] at hh;exact absurd hh.2.2 aR),ab vR] at h
    cases h;rw [xG] at eI;have jd:=eX 9 (tok p 0).at_ [] [c,b] [[qT c],[qT b]] (fX _);generalize tok p 0=tk at *
    cases cc with
    | true =>
     cases ee with
     | true=>simp at UD
     | false =>
      refine ah func248 ntmps248 ?_;refine V [0] ht ?_;refine V [0] eg ?_;refine V [0] L ?_;refine V [0] I ?_;refine V [0] I ?_;refine cw ?_;refine D ?_;refine V [0] hw ?_;refine V [0] hex ?_;refine oE ?_;refine D ?_;refine cw ?_;refine D ?_;refine V [0] pE ?_;refine V [0] dZ ?_;refine eu ?_;refine D ?_;refine V [0] eI ?_;refine GL.wk (Wk.jv (t:=108) rfl rfl rfl rfl) ?_;refine cE ?_;refine V [] jd ?_;exact al
    | false =>
     refine ah func248 ntmps248 ?_;refine V [0] ht ?_;refine V [0] eg ?_;refine V [0] L ?_;refine V [0] I ?_;refine V [0] I ?_;refine cw ?_;refine D ?_;refine V [0] hw ?_;refine V [0] hex ?_;refine oE ?_;refine D ?_;refine cw ?_;refine D ?_;refine V [0] pE ?_;refine V [0] dZ ?_;refine eu ?_;refine D ?_;refine GL.wk (Wk.jv (t:=108) rfl rfl rfl rfl) ?_;refine cE ?_;refine V [] jd ?_;exact al
   by_cases kG:q2.code=0
   ·cases xG:is q2 0 eL with
    | true =>
     clear Kn;rw [ab ⟨vR,kG,xG⟩] at h;rw [xG] at eI
     have ud:(q2.code==0)=true:=by simpa using kG
     have nP:q2.i < q2.l.length:=is_lt (k:=0) xG;have hqn:=(dT nP).ok BI
     cases fg:iS f (.block (d+1)) q2.next with
     | none=>rw [fg] at h;cases h
     | some r =>
      obtain ⟨b2,q3⟩:=r;rw [fg] at h;cases h;have Wa:=C.block (d+1) _ b2 _ x hqn G fg;have jd:=eX 9 (tok p 0).at_ [] [c,b,b2] [[qT c],[qT b],[qT b2]] (fX _);generalize tok p 0=tk at *;refine ah func248 ntmps248 ?_;refine V [0] ht ?_;refine V [0] eg ?_;refine V [0] L ?_;refine V [0] I ?_;refine V [0] I ?_;refine cw ?_;refine D ?_;refine V [0] hw ?_;refine V [0] hex ?_;refine oE ?_;refine D ?_;refine cw ?_;refine D ?_;refine V [0] pE ?_;refine V [0] dZ ?_;refine eu ?_;refine D ?_;refine V [0] eI ?_;refine V [0] Wa ?_;refine eu ?_;refine D ?_;refine GL.wk (Wk.jv (t:=108) rfl rfl rfl rfl) ?_;refine cE ?_;refine V [] jd ?_;exact al
    | false=>exact Kn true false (by simpa using kG) xG (.inr rfl)
   ·exact Kn false _ (by simpa using kG) rfl (.inl rfl)
  | false =>
   have YP:bw=true:=by simpa using vU
   subst YP;rw [M (fun hh=>by have:=hh.1;rw [vR] at this;cases this),M (by rw [vR];decide)] at h;cases h;have jd:=eX 10 (tok p 0).at_ [] [c,b] [[qT c],[qT b]] (fX _);generalize tok p 0=tk at *;refine ah func248 ntmps248 ?_;refine V [0] ht ?_;refine V [0] eg ?_;refine V [0] L ?_;refine V [0] I ?_;refine V [0] h3 ?_;refine V [0] I ?_;refine cw ?_;refine D ?_;refine V [0] hw ?_;refine V [0] hex ?_;refine oE ?_;refine D ?_;refine cw ?_;refine D ?_;refine V [0] pE ?_;refine V [0] dZ ?_;refine eu ?_;refine D ?_;refine GL.wk (Wk.jv (t:=108) rfl rfl rfl rfl) ?_;refine cE ?_;refine V [] jd ?_;exact al
 cases jR:is p 0 eo with
 | true=>exact main true _ jR rfl (.inl rfl)
 | false =>
 cases sZ:is p 0 dQ with
 | true=>exact main false true jR sZ (.inr rfl)
 | false =>
 clear main;rw [jR] at I;rw [sZ] at h3;rw [M (by rw [jR,sZ];decide)] at h
 cases vW:is p 0 dz with
 | true =>
  rw [vW] at h4;rw [ab vW] at h;have ak:p.i < p.l.length:=is_lt (k:=0) vW;have dD:=(dT ak).ok hp
  cases he:iE f (.expr (d+1)) p.next with
  | none=>rw [he] at h;cases h
  | some r =>
   obtain ⟨e,q1⟩:=r;rw [he] at h;cases h;have pD:=((jT f).1 _ _ _ _ dD he).ok dD;have hex:=E.expr (d+1) _ e q1 x dD G he;have pE:=fo q1 [59] x pD;have jd:=eX 11 (tok p 0).at_ [] [e] [[qT e]] (fX _);generalize tok p 0=tk at *;refine ah func248 ntmps248 ?_;refine V [0] ht ?_;refine V [0] eg ?_;refine V [0] L ?_;refine V [0] I ?_;refine V [0] h3 ?_;refine V [0] h4 ?_;refine V [0] hex ?_;refine cw ?_;refine D ?_;refine V [0] pE ?_;refine cw ?_;refine D ?_;refine V [] jd ?_;exact al
 | false =>
  rw [vW] at h4;rw [M (by rw [vW];decide)] at h;have UK:=P9 (f:=f) d p t q x hp G h;generalize tok p 0=tk at *;refine ah func248 ntmps248 ?_;refine V [0] ht ?_;refine V [0] eg ?_;refine V [0] L ?_;refine V [0] I ?_;refine V [0] h3 ?_;refine V [0] h4 ?_;refine V [0] UK ?_;exact al
theorem XR (f:Nat):Qv f:=by
 induction f using Nat.strongRecOn with
 | _ f ih =>
  cases f with
  | zero=>exact ⟨fun d p t q x _ _ h=>by simp [iS] at h,fun d p t q x _ _ h=>by simp [iS] at h⟩
  | succ f =>
   have C:=ih f (Nat.lt_succ_self f)
   have Cs:∀ f',f'<=f->Qv f':=fun f' h=>ih f' (Nat.lt_succ_of_le h)
   exact ⟨fun d p t q x hp hd h=>RV Cs d p t q x hp hd h,fun d p t q x hp hd h=>Vz C d p t q x hp hd h⟩
end Go.Xg
namespace Go.Xg
open GV (U)
open Go.RowKit Go.Xw Go.Proofs Tryz
open Go.Xp (Tok Nd T aQ aB fS bO bg)
attribute [local irreducible] GW GL GO YG GC GA be bd
def sO (n:Nd):List GV:=[.v (ii n.kind),.v (ii n.at_),.v (ii n.n),.v (sv n.s),ints n.kids]
def C8 (t:T) (x:Value):List GV:=[.v (ii t.n.kind),.v (ii t.n.at_),.v (ii t.n.n),.v (sv t.n.s),.v x]
theorem L8:∀ (N:Nat) (t:T),aQ t<=N->∀ (n:Nat) (rows:List (List GV)) (a:Option Addr) (c:Nat),rows.length=n->n+aQ t<=1099511627776 ->
  GC prog 126 [.v (.slice a n c),qT t] [.vech 62 5 rows (.slice a n c)] fun g aO=>∃ a c,g=.v (.slice a (n+aQ t) c)/\aO=[.vech 62 5 (rows++(fS n t).map sO) (.slice a (n+aQ t) c)]:=by
 intro N
 induction N with
 | zero=>intro t h;rw [Go.Xp.eA] at h;omega
 | succ N ih =>
 intro t hN n rows a c hn hb;subst hn;rw [Go.Xp.eA] at hb hN;have iT:=Go.Xp.bW t.kids;refine ah func126 ntmps126 ?_;refine GL.oc 0 rfl rfl rfl rfl rfl rfl rfl rfl bm qR ?_;intro a c;refine cE ?_;refine D ?_;refine GW.wk (Wk.jq 3 1) ?_
 refine GW.range (jB t.kids).length (fun k fr F=>∃ a c a2 c2,fr=[.v (.slice a (rows.length+1+aB (t.kids.take k)) c),qT t,U,U,U,.v (ii (rows.length:Nat)),U,U,U,U,U,U,U,U,U,U,U,U,U,U,.sl 1 (jB t.kids),.v (ii ((jB t.kids).length:Int)),.v (ii (k:Nat)),U,U,U,U,U,U,U,U,U,U,U,U,U,U,U,U,U,U,U,U,U] /\
  F=[.vech 62 5 (rows++C8 t (.slice a2 k c2)::(bO (rows.length+1) (t.kids.take k)).map sO) (.slice a (rows.length+1+aB (t.kids.take k)) c),.vech 3 1 ((bg (rows.length+1) (t.kids.take k)).map fun z=>[.v (ii z)]) (.slice a2 k c2)]) ?_ (by rw [ln];omega) ?_ ?_ ?_
 ·refine ⟨_,_,Wk.aE ao,a,c,none,0,rfl,?_⟩;rfl
 ·rintro k _ _ ⟨a,c,a2,c2,rfl,rfl⟩;exact et
 ·rintro k _ _ ak ⟨a,c,a2,c2,rfl,rfl⟩;rw [ln] at ak;obtain ⟨kid,ku⟩:∃ kid,t.kids[k]?=some kid:=⟨t.kids[k],by simp [ak]⟩;have hr:=yU ku;have dE:=Go.Xp.iu ku;have hle:=Go.Xp.ir t.kids (k+1)
  have ji:t.kids.take (k+1)=t.kids.take k++[kid]:=by rw [cm,ku];rfl
  have hX:((bO (rows.length+1) (t.kids.take k)).map sO).length=aB (t.kids.take k):=by rw [bP,Go.Xp.iN]
  have DQ:((bg (rows.length+1) (t.kids.take k)).map fun z=>[GV.v (ii z)]).length=k:=by rw [bP,Go.Xp.dy,cS];omega
  rw [ji,Go.Xp.oQ,Go.Xp.kz,Go.Xp.gZ];simp only [bg,bO,aB,cq,Nat.add_zero,iL,List.map_cons,map_nil,<-fP]
  have uf:=fun (rs:List (List GV)) a c h=>ih kid G (rows.length+1+aB (t.kids.take k)) rs a c h G
  generalize (bO (rows.length+1) (t.kids.take k)).map sO=X at *;generalize ((bg (rows.length+1) (t.kids.take k)).map fun z=>[GV.v (ii z)])=ks at *;generalize aB (t.kids.take k)=s at *;subst DQ
  have jc:∀ r:List GV,(rows++r::X).length=rows.length+1+s:=fun r=>by simp;omega
  have bL:(rows++C8 t (.slice a2 ks.length c2)::X)[rows.length]?=some (C8 t (.slice a2 ks.length c2)):=by simp
  have fR:=jc (C8 t (.slice a2 ks.length c2));unfold C8 at bL fR |-;refine D ?_;refine GL.oc 1 rfl rfl rfl rfl rfl rfl rfl rfl bm qR ?_;intro a3 c3;refine cE ?_;refine D ?_;refine nL ?_;rw [xw];simp only [bo];refine D ?_;refine cD [0] (uf _ _ _ (jc _)) ?_;rintro _ _ ⟨a4,c4,rfl,rfl⟩;refine eO ?_;refine D ?_;refine ⟨rfl,rfl,_,_,Wk.aE ao,a4,c4,a3,c3,rfl,?_⟩;rw [cK];rfl
 ·rintro _ _ ⟨a,c,a2,c2,rfl,rfl⟩;rw [ln,b7];rw [Go.Xp.eA,Go.Xp.Fe]
  have DQ:((bg (rows.length+1) t.kids).map fun z=>[GV.v (ii z)]).length=t.kids.length:=by rw [bP,Go.Xp.dy]
  have sW:ints (bg (rows.length+1) t.kids)=.sl 1 ((bg (rows.length+1) t.kids).map fun z=>[GV.v (ii z)]):=rfl;rw [List.map_cons];simp only [sO,C8];rw [sW,show rows.length+(aB t.kids+1)=rows.length+1+aB t.kids by omega];generalize (bO (rows.length+1) t.kids).map sO=X at *;generalize ((bg (rows.length+1) t.kids).map fun z=>[GV.v (ii z)])=ks at *;generalize aB t.kids=s at *
  have bL:∀ r:List GV,(rows++r::X)[rows.length]?=some r:=fun r=>by simp
  refine aW ?_;apply GW.wk
  ·apply Wk.EL (i:=0) (idx:=rows.length) (o:=4) (j:=1)
   ·rfl
   ·exact bL _
   ·rfl
   ·rfl
   ·rfl
  rw [xw];simp only [bo];refine D ?_;refine cv ?_;exact ⟨_,_,rfl,rfl⟩
end Go.Xg
namespace Go.Xg
open GV (U)
open Go.RowKit Go.Xw Go.Proofs Tryz
open Go.Xp (Tok Nd T bz one levels ia eo eL dQ dz mi nH pj Ar)
open Go.Sp Go.Im
attribute [local irreducible] GW GL GO YG GC GA be bd
structure HW where
 aT:Option Addr
 cT:Nat
 aG:Option Addr
 cG:Nat
 aA:Option Addr
 cA:Nat
 aF:Option Addr
 cF:Nat
def rN (x:Ar):List GV:=[.v (sv x.name),.v (ii x.size)]
def qL (x:ae × List ae):List GV:=[.v (sv x.1),strs x.2,.v (ii 0)]
def l9 (x:ae):List GV:=[.v (sv x)]
abbrev hx (st:PS) (h:HW):PX:=⟨.slice h.aT st.trees.length h.cT,.slice h.aG st.globals.length h.cG,.slice h.aA st.arrays.length h.cA,.slice h.aF st.fns.length h.cF,.slice none 0 0⟩
abbrev vt (p:RS) (st:PS) (h:HW):List Ob:=[bZ p (hx st h),.vech 131 1 (jB st.trees) (.slice h.aT st.trees.length h.cT),.vech 9 1 (st.globals.map l9) (.slice h.aG st.globals.length h.cG),.vech 56 2 (st.arrays.map rN) (.slice h.aA st.arrays.length h.cA),.vech 58 3 (st.fns.map qL) (.slice h.aF st.fns.length h.cF)]
theorem xk {α β:Type} (g:α->β) (l:List α) (x:α):(l++[x]).map g=l.map g++[g x]:=by simp
theorem Oi {f:Nat} (p:RS) (st:PS) (h:HW) (q:RS) (ey:PS) (n:Nat) (hp:p.ok) (hn:st.le n) (hb:n+1<=1099511627776) (hs:is p 0 mi=true) (hw:iW f p st=some (q,ey)) :
  GC prog 168 [.loc 0 0] (vt p st h) (fun g aO=>g=.tup []/\∃ h',aO=vt q ey h'):=by
 obtain ⟨DT,dJ⟩:=id hp;obtain ⟨BE,bV,Uw,Ux⟩:=hn;unfold iW at hw;rw [ab hs] at hw;have hi:=kK p 0 mi (hx st h) hp aR;rw [hs] at hi;have mz:=(kv hs).ok hp
 have eV:=rI p.next (hx st h) mz
 have eh:=(iG mz).ok mz;generalize (tok p.next 0).s=s at *
 generalize bD p.next=p2 at *
 have sU:=kK p2 0 [91] (hx st h) eh aR
 have aaa:¬ (p2.code=0/\is p2 0 [91]=true)->True:=fun _=>trivial
 cases hc:(p2.code==0) with
 | false =>
  have dP:¬ p2.code=0:=by simpa using hc
  rw [M (fun hh=>dP hh.1)] at hw;cases hw
  have yt:(st.globals.map l9).length+1=(st.globals++[s]).length:=by simp
  have qc:st.globals.map l9++[[GV.v (sv s)]]=(st.globals++[s]).map l9:=by simp [l9]
  have hlen:(st.globals.map l9).length+1<=1099511627776:=by simp;omega
  refine ah func168 ntmps168 ?_;refine V [0] hi ?_;refine V [0] eV ?_;refine GL.oc 2 rfl rfl rfl rfl rfl rfl rfl rfl bm qR ?_;intro a c;refine cE ?_;rw [yt,qc];refine D ?_;refine cw ?_;refine D ?_;refine V [0] (fo p2 [59] (hx { st with globals:=st.globals++[s] } { h with aG:=a,cG:=c }) eh) ?_;refine eN ?_;exact ⟨rfl,{ h with aG:=a,cG:=c },rfl⟩
 | true =>
  have dP:p2.code=0:=by simpa using hc
  cases fg:is p2 0 [91] with
  | false =>
   rw [fg] at sU;rw [M (fun hh=>by have:=hh.2;rw [fg] at this;cases this)] at hw;cases hw
   have yt:(st.globals.map l9).length+1=(st.globals++[s]).length:=by simp
   have qc:st.globals.map l9++[[GV.v (sv s)]]=(st.globals++[s]).map l9:=by simp [l9]
   have hlen:(st.globals.map l9).length+1<=1099511627776:=by simp;omega
   refine ah func168 ntmps168 ?_;refine V [0] hi ?_;refine V [0] eV ?_;refine V [0] sU ?_;refine GL.oc 2 rfl rfl rfl rfl rfl rfl rfl rfl bm qR ?_;intro a c;refine cE ?_;rw [yt,qc];refine D ?_;refine cw ?_;refine D ?_;refine V [0] (fo p2 [59] (hx { st with globals:=st.globals++[s] } { h with aG:=a,cG:=c }) eh) ?_;refine eN ?_;exact ⟨rfl,{ h with aG:=a,cG:=c },rfl⟩
  | true =>
   rw [fg] at sU;rw [ab ⟨dP,fg⟩] at hw;have Ac:=(kv fg).ok eh;have aaq:=eh.1;have UE:=eh.2;have aar:=Ac.1;have aas:=Ac.2
   have ht:=sd p2.next 0 (hx st h) Ac aR
   have FX:=zJ p2.next (hx st h) Ac
   have Fu:(tok p2.next 0).kind=1->p2.next.next.ok:=fun hk=>(dT (sF (p:=p2.next) (k:=0) (by rw [hk];decide))).ok Ac
   generalize tok p2.next 0=tk at *
   by_cases hk:tk.kind=1
   ·rw [ab hk] at hw;cases hw
    have mx:(tk.kind != 1)=false:=by simpa using hk
    have Q1:=Fu hk;have aat:=Q1.1
    have FV:=fo p2.next.next [93] (hx st h) Q1
    have hp5:=(cM Q1 [93]).ok Q1
    generalize want p2.next.next [93]=p5 at *
    have yt:(st.arrays.map rN).length+1=(st.arrays++[(⟨s,tk.n⟩:Ar)]).length:=by simp
    have qc:st.arrays.map rN++[[GV.v (sv s),.v (ii tk.n)]]=(st.arrays++[(⟨s,tk.n⟩:Ar)]).map rN:=by simp [rN]
    have hlen:(st.arrays.map rN).length+1<=1099511627776:=by simp;omega
    refine ah func168 ntmps168 ?_;refine V [0] hi ?_;refine V [0] eV ?_;refine V [0] sU ?_;refine V [0] ht ?_;refine cw ?_;refine D ?_;refine V [0] FV ?_;refine aK (aC 0 10 (.a 10 (.a 11 (aC 12 3 (.a 15 .nil))))) ?_;refine aj ?_;refine eY ?_;refine aj ?_;refine OA rfl rfl (GL.rz 3 rfl rfl rfl bm rfl rfl (by refine ⟨?_,?_⟩;(· show _+1<=_;omega);(· show (_+1) * _<=_;omega)) ?_);intro a c;refine cj ?_;generalize hX:chunk 1 2 _=X
    obtain rfl:X=[rN ⟨s,tk.n⟩]:=by rw [<-hX];rfl
    clear hX
    try (generalize hX:chunk 1 2 _=X;obtain rfl:X=[rN ⟨s,tk.n⟩]:=by rw [<-hX];rfl)
    rw [show (st.arrays.map rN).length+[rN ⟨s,tk.n⟩].length=(st.arrays++[(⟨s,tk.n⟩:Ar)]).length by simp,<-xk rN st.arrays ⟨s,tk.n⟩];refine bq ?_;refine cw ?_;refine D ?_;refine V [0] (fo p5 [59] (hx { st with arrays:=st.arrays++[⟨s,tk.n⟩] } { h with aA:=a,cA:=c }) hp5) ?_;refine eN ?_;exact ⟨rfl,{ h with aA:=a,cA:=c },rfl⟩
   ·rw [M hk] at hw;cases hw
    have mx:(tk.kind != 1)=true:=by simpa using hk
    refine ah func168 ntmps168 ?_;refine V [0] hi ?_;refine V [0] eV ?_;refine V [0] sU ?_;refine V [0] ht ?_;refine V [0] FX ?_;refine eN ?_;exact ⟨rfl,h,rfl⟩
theorem Lk {f:Nat} (p:RS) (st:PS) (h:HW) (q:RS) (ey:PS) (hp:p.ok) (hs:is p 0 mi=false) (jR:is p 0 nH=false) (hw:iW f p st=some (q,ey)) :
  GC prog 168 [.loc 0 0] (vt p st h) (fun g aO=>g=.tup []/\∃ h',aO=vt q ey h'):=by
 unfold iW at hw;rw [M (by rw [hs];decide),M (by rw [jR];decide)] at hw;cases hw;have hi:=kK p 0 mi (hx st h) hp aR;have sU:=kK p 0 nH (hx st h) hp aR;have FX:=zJ p (hx st h) hp;rw [hs] at hi;rw [jR] at sU;refine ah func168 ntmps168 ?_;refine V [0] hi ?_;refine V [0] sU ?_;refine V [0] FX ?_;refine eN ?_;exact ⟨rfl,h,rfl⟩
abbrev V1 (p:RS) (st:PS) (h:HW) (s:ae) (acc:List ae) (a:Option Addr) (c:Nat):List Ob:=vt p st h++[.box 58 [.v (sv s),.v (.slice a acc.length c),.v (ii 0)],.vech 9 1 (acc.map l9) (.slice a acc.length c)]
theorem Ll {f:Nat} (p:RS) (st:PS) (h:HW) (q:RS) (ey:PS) (n:Nat) (hp:p.ok) (hn:st.le n) (hb:n+f+4<=1099511627776) (vV:is p 0 mi=false) (hs:is p 0 nH=true) (hw:iW f p st=some (q,ey)) :
  GC prog 168 [.loc 0 0] (vt p st h) (fun g aO=>g=.tup []/\∃ h',aO=vt q ey h'):=by
 obtain ⟨DT,dJ⟩:=id hp;obtain ⟨BE,bV,Uw,Ux⟩:=hn;unfold iW at hw;rw [M (by rw [vV];decide),ab hs] at hw;have Up:=kK p 0 mi (hx st h) hp aR;rw [vV] at Up;have hi:=kK p 0 nH (hx st h) hp aR;rw [hs] at hi;have mz:=(kv hs).ok hp
 have eV:=rI p.next (hx st h) mz
 have eh:=(iG mz).ok mz;generalize (tok p.next 0).s=s at *
 generalize bD p.next=p2 at *
 have pE:=fo p2 [40] (hx st h) eh;have Ac:=(cM eh [40]).ok eh;generalize want p2 [40]=p3 at *
 cases hm:pF f [] p3 with
 | none=>rw [hm] at hw;cases hw
 | some r =>
 obtain ⟨l,q1⟩:=r;rw [hm] at hw;simp only at hw;refine ah func168 ntmps168 ?_;refine V [0] Up ?_;refine V [0] hi ?_;refine V [0] eV ?_;refine cw ?_;refine D ?_;refine V [0] pE ?_;refine GW.wk (Wk.jq 9 1) ?_;refine GW.loop (fun z:Nat × List ae × RS=>z.1) (fun z fr F=>∃ a c,fr=[.loc 0 0,U,U,U,.loc 5 0,U,U,U,U,U,U,U,U,U,U,U,U,U,U,U,U,U,U,U,U,U,U,U,U,U,U,U,U,U,U,U,U,U,U,U,U,U,U,U,U,U,U,U,U,U,U,U,U,U,U,U,U,U,U,U,U,U,U,U,U,U,U,U,U,U,U,U,U,U,U,U,U,U,U,U,U,U,U,U,U,U,U,U,U,U,U,U,U,U,U,U,U,U,U,U,U,U,U,U,U,U,U,U,U,U,U,U,U,U,U,U,U,U,U,U,U,U,U,U,U,U,U,U,U,U,U,U,U,U,U,U,U,U,U,U,U,U,U,U,U,U,U,U,U,U,U,U,U]/\F=V1 z.2.2 st h s z.2.1 a c/\z.2.2.ok/\z.2.1.length+z.1<=f/\pF z.1 z.2.1 z.2.2=some (l,q1)) (f,[],p3) ?_ ?_
 ·exact ⟨_,_,Wk.aE ao,none,0,rfl,rfl,Ac,by simp,hm⟩
 clear hm Ac pE eh eV hi Up mz;rintro ⟨g,acc,p⟩ _ _ ⟨a,c,rfl,rfl,hp,Aa,hm⟩;simp only at hp Aa hm
 cases g with
 | zero=>cases hm
 | succ g =>
 rw [pF] at hm;have hi:=kK p 0 [41] (hx st h) hp aR
 by_cases hgo:p.code=0/\is p 0 [41]=false
 ·obtain ⟨hc,sZ⟩:=id hgo;rw [ab hgo] at hm;rw [sZ] at hi
  have dP:(p.code==0)=true:=by simpa using hc
  by_cases h0:acc.length=0
  ·obtain rfl:=gJ h0
   have hd:decide ((0:Int) < (([]:List ae).length:Int))=false:=by decide
   rw [ab (by rfl)] at hm;have eV:=rI p (hx st h) hp;have eh:=(iG hp).ok hp;generalize (tok p 0).s=s2 at *;refine D ?_;refine V [0] hi ?_;refine aK (aC 0 3 (.a 3 (.a 4 (.a 5 (.q 6 (.a 7 .nil)))))) ?_;refine aj ?_;refine aI [0] eV ?_;refine eY ?_;refine aj ?_;refine OA rfl rfl (GL.rz 6 (news:=[l9 s2]) rfl rfl rfl bm rfl rfl (by refine ⟨?_,?_⟩;(· show _+1<=_;omega);(· show (_+1) * _<=_;omega)) ?_);intro a2 c2;refine cj ?_;refine bq ?_;exact ⟨(g,[s2],bD p),⟨_,_,Wk.aE ao,a2,c2,rfl,rfl,eh,by simp at Aa |-;omega,hm⟩,by simp⟩
  ·have hd:decide ((0:Int) < (acc.length:Int))=true:=by simpa using by omega
   rw [M h0] at hm;have hwc:=fo p [44] (hx st h) hp;have mU:=(cM hp [44]).ok hp;generalize want p [44]=pw at *;have eV:=rI pw (hx st h) mU;have eh:=(iG mU).ok mU;generalize (tok pw 0).s=s2 at *
   have hlen:(acc.map l9).length<=f:=by simp;omega
   refine D ?_;refine V [0] hi ?_;refine cw ?_;refine D ?_;refine V [0] hwc ?_;refine aK (aC 0 3 (.a 3 (.a 4 (.a 5 (.q 6 (.a 7 .nil)))))) ?_;refine aj ?_;refine aI [0] eV ?_;refine eY ?_;refine aj ?_;refine OA rfl rfl (GL.rz 6 (news:=[l9 s2]) rfl rfl rfl bm rfl rfl (by refine ⟨?_,?_⟩;(· show _+1<=_;omega);(· show (_+1) * _<=_;omega)) ?_);intro a2 c2;refine cj ?_
   try rw [show (acc.map l9).length+1=(acc++[s2]).length by simp]
   rw [show (acc.map l9).length+[l9 s2].length=(acc++[s2]).length by simp,<-xk l9 acc s2];refine bq ?_;exact ⟨(g,acc++[s2],bD pw),⟨_,_,Wk.aE ao,a2,c2,rfl,rfl,eh,by simp;omega,hm⟩,by simp⟩
 ·rw [M hgo] at hm
  obtain ⟨rfl,rfl⟩:acc=l/\want p [41]=q1:=by simpa using hm
  clear hm;have Q9:=fo p [41] (hx st h) hp;have XA:=(cM hp [41]).ok hp
  have fR:(jB st.trees).length+1<=1099511627776:=by rw [ln];omega
  have jc:(st.fns.map qL).length+1<=1099511627776:=by simp;omega
  by_cases hc:p.code=0
  ·have dP:(p.code==0)=true:=by simpa using hc
   have sZ:is p 0 [41]=true:=by
    cases h3:is p 0 [41] with
    | true=>rfl
    | false=>exact absurd ⟨hc,h3⟩ hgo
   rw [sZ] at hi
   by_cases hqc:(want p [41]).code=0
   ·have Pg:((want p [41]).code==0)=true:=by simpa using hqc
    rw [ab hqc] at hw
    cases ft:iS f (.block 1) (want p [41]) with
    | none=>rw [ft] at hw;cases hw
    | some r =>
    obtain ⟨t,qq⟩:=r;rw [ft] at hw
    obtain ⟨rfl,rfl⟩:qq=q/\_=ey:=by simpa using hw
    have dZ:=(XR f).block 1 _ t qq (hx st h) XA G ft;clear ft hqc;generalize want p [41]=pq at *;refine D ?_;refine V [0] hi ?_;refine jY ?_;refine D ?_;refine cw ?_;refine D ?_;refine V [0] Q9 ?_;refine aK (aC 0 6 (.a 6 (.a 7 (.a 8 (.q 9 (.q 10 (.a 11 .nil))))))) ?_;refine aj ?_;refine aI [0] dZ ?_;refine eY ?_;refine aj ?_;refine OA rfl rfl (GL.rz 1 (news:=[[qT t]]) rfl rfl rfl bm rfl rfl (by refine ⟨?_,?_⟩;(· show _+1<=_;omega);(· show (_+1) * _<=_;omega)) ?_);intro a3 c3;refine cj ?_
    try rw [show (jB st.trees).length+1=(st.trees++[t]).length by simp [ln]]
    rw [show (jB st.trees).length+[[qT t]].length=(st.trees++[t]).length by simp [ln],<-wo st.trees t];refine bq ?_;apply GW.wk
    ·apply Wk.vh (i:=5) (o:=1) (j:=6)
     ·rfl
     ·rfl
     ·rfl
     ·rfl
    simp only [oset,bo];refine aK (aC 0 7 (.a 7 (.a 8 (aC 9 3 (.a 12 .nil))))) ?_;refine aj ?_;refine eY ?_;refine aj ?_;refine OA rfl rfl (GL.rz 4 (news:=[qL (s,acc)]) rfl rfl rfl bm rfl rfl (by refine ⟨?_,?_⟩;(· show _+1<=_;omega);(· show (_+1) * _<=_;omega)) ?_);intro a4 c4;refine cj ?_
    try rw [show (st.fns.map qL).length+1=(st.fns++[(s,acc)]).length by simp]
    rw [show (st.fns.map qL).length+[qL (s,acc)].length=(st.fns++[(s,acc)]).length by simp,<-xk qL st.fns (s,acc)];refine bq ?_;refine eN ?_;exact ⟨rfl,{ h with aT:=a3,cT:=c3,aF:=a4,cF:=c4 },rfl⟩
   ·have Pg:((want p [41]).code==0)=false:=by simpa using hqc
    rw [M hqc] at hw;cases hw;clear hqc;generalize want p [41]=pq at *;refine D ?_;refine V [0] hi ?_;refine jY ?_;refine D ?_;refine cw ?_;refine D ?_;refine V [0] Q9 ?_;refine eN ?_;exact ⟨rfl,h,rfl⟩
  ·have dP:(p.code==0)=false:=by simpa using hc
   by_cases hqc:(want p [41]).code=0
   ·have Pg:((want p [41]).code==0)=true:=by simpa using hqc
    rw [ab hqc] at hw
    cases ft:iS f (.block 1) (want p [41]) with
    | none=>rw [ft] at hw;cases hw
    | some r =>
    obtain ⟨t,qq⟩:=r;rw [ft] at hw
    obtain ⟨rfl,rfl⟩:qq=q/\_=ey:=by simpa using hw
    have dZ:=(XR f).block 1 _ t qq (hx st h) XA G ft;clear ft hqc;generalize want p [41]=pq at *;refine cl ?_;refine D ?_;refine cw ?_;refine D ?_;refine V [0] Q9 ?_;refine aK (aC 0 6 (.a 6 (.a 7 (.a 8 (.q 9 (.q 10 (.a 11 .nil))))))) ?_;refine aj ?_;refine aI [0] dZ ?_;refine eY ?_;refine aj ?_;refine OA rfl rfl (GL.rz 1 (news:=[[qT t]]) rfl rfl rfl bm rfl rfl (by refine ⟨?_,?_⟩;(· show _+1<=_;omega);(· show (_+1) * _<=_;omega)) ?_);intro a3 c3;refine cj ?_
    try rw [show (jB st.trees).length+1=(st.trees++[t]).length by simp [ln]]
    rw [show (jB st.trees).length+[[qT t]].length=(st.trees++[t]).length by simp [ln],<-wo st.trees t];refine bq ?_;apply GW.wk
    ·apply Wk.vh (i:=5) (o:=1) (j:=6)
     ·rfl
     ·rfl
     ·rfl
     ·rfl
    simp only [oset,bo];refine aK (aC 0 7 (.a 7 (.a 8 (aC 9 3 (.a 12 .nil))))) ?_;refine aj ?_;refine eY ?_;refine aj ?_;refine OA rfl rfl (GL.rz 4 (news:=[qL (s,acc)]) rfl rfl rfl bm rfl rfl (by refine ⟨?_,?_⟩;(· show _+1<=_;omega);(· show (_+1) * _<=_;omega)) ?_);intro a4 c4;refine cj ?_
    try rw [show (st.fns.map qL).length+1=(st.fns++[(s,acc)]).length by simp]
    rw [show (st.fns.map qL).length+[qL (s,acc)].length=(st.fns++[(s,acc)]).length by simp,<-xk qL st.fns (s,acc)];refine bq ?_;refine eN ?_;exact ⟨rfl,{ h with aT:=a3,cT:=c3,aF:=a4,cF:=c4 },rfl⟩
   ·have Pg:((want p [41]).code==0)=false:=by simpa using hqc
    rw [M hqc] at hw;cases hw;clear hqc;generalize want p [41]=pq at *;refine cl ?_;refine D ?_;refine cw ?_;refine D ?_;refine V [0] Q9 ?_;refine eN ?_;exact ⟨rfl,h,rfl⟩
end Go.Xg
namespace Go.Xg
open GV (U)
open Go.RowKit Go.Xw Go.Proofs Tryz
open Go.Xp (Tok Nd T bz one levels ia eo eL dQ dz mi nH pj Ar aB aQ bO fS)
open Go.Sp Go.Im
attribute [local irreducible] GW GL GO YG GC GA be bd
theorem Td {f:Nat} (p:RS) (st:PS) (h:HW) (q:RS) (ey:PS) (n:Nat) (hp:p.ok) (hn:st.le n) (hb:n+f+4<=1099511627776) (hw:iW f p st=some (q,ey)) :
  GC prog 168 [.loc 0 0] (vt p st h) (fun g aO=>g=.tup []/\∃ h',aO=vt q ey h'):=by
 cases L:is p 0 mi with
 | true=>exact Oi p st h q ey n hp hn G L hw
 | false =>
  cases I:is p 0 nH with
  | true=>exact Ll p st h q ey n hp hn hb L I hw
  | false=>exact Lk p st h q ey hp L I hw
def od (fns:List (ae × List ae)) (trees:List T) (k:Nat):List (List GV):=fns.mapIdx fun i x=>[.v (sv x.1),strs x.2,.v (ii (if i < k then ((aB (trees.take i):Nat):Int) else 0))]
theorem Gu:∀ (rows:List (List GV)) (i j o:Nat) (g:GV),(ek rows i o g)[j]?=if j=i then (rows[j]?).map (fun r=>bo r o g) else rows[j]?
 | [],i,j,o,g=>by simp [ek]
 | r::rs,0,0,o,g=>by simp [ek]
 | r::rs,0,j+1,o,g=>by simp [ek]
 | r::rs,i+1,0,o,g=>by simp [ek]
 | r::rs,i+1,j+1,o,g=>by
  rw [ek,List.getElem?_cons_succ,Gu rs i j o g];simp
theorem SL (fns:List (ae × List ae)) (trees:List T):fns.map qL=od fns trees 0:=by
 apply List.ext_getElem?;intro i;rw [od,getElem?_mapIdx,aV]
 cases fns[i]? <;> simp [qL]
theorem NK (fns:List (ae × List ae)) (trees:List T) (k:Nat):ek (od fns trees k) k 2 (.v (ii ((aB (trees.take k):Nat):Int)))=od fns trees (k+1):=by
 apply List.ext_getElem?;intro i;rw [Gu,od,od,getElem?_mapIdx,getElem?_mapIdx]
 by_cases h:i=k
 ·subst h;rw [ab rfl]
  cases fns[i]? with
  | none=>rfl
  | some x=>simp [bo]
 ·rw [M h]
  cases fns[i]? with
  | none=>rfl
  | some x =>
   have:(i < k)=(i < k+1):=by simp;omega
   simp [this]
theorem P0 {fns:List (ae × List ae)} {trees:List T} {k:Nat} (j:Nat) (h:k < fns.length):∃ x,(od fns trees j)[k]?=some [.v (sv x.1),strs x.2,.v (ii (if k < j then ((aB (trees.take k):Nat):Int) else 0))]/\fns[k]?=some x:=by
 refine ⟨fns[k],?_,by simp [h]⟩;rw [od,getElem?_mapIdx];simp [h]
def Jl (q:RS) (st:PS):GV :=
 if q.code=0 then
  if aB st.trees > 800 then .tup [.agg [.sl 1 [],.sl 2 [],.sl 3 [],.sl 5 []],.v (ii 10),.v (ii 0)]
  else .tup [.agg [.sl 1 (st.globals.map l9),.sl 2 (st.arrays.map rN),.sl 3 (od st.fns st.trees st.trees.length),.sl 5 ((bO 0 st.trees).map sO)],.v (ii 0),.v (ii 0)]
 else .tup [.agg [.sl 1 [],.sl 2 [],.sl 3 [],.sl 5 []],.v (ii q.code),.v (ii q.at_)]
theorem HP {aaL f:Nat} (ts:List Tok) (e:Int) (q:RS) (st:PS) (hl:ts.length<=1099511627776) (hb:aaL+f+4<=1099511627776) (hz:q.code=0->aB st.trees<=1099511627776) (h:n8 aaL f ⟨ts,0,e,0,0⟩ .empty=some (q,st)) :
  GF prog 117 [jx ts,.v (ii e)] [] (Jl q st) []:=by
 unfold Jl;refine ah func117 ntmps117 ?_;refine GW.wk (Wk.jq 131 1) ?_;refine GW.wk (Wk.jq 9 1) ?_;refine GW.wk (Wk.jq 56 2) ?_;refine GW.wk (Wk.jq 58 3) ?_;refine GW.loop (fun z:Nat × RS × PS=>z.1) (fun z fr F=>∃ h n,fr=[jx ts,.v (ii e),U,U,.loc 0 0,.v (ii 0),.v (ii 0),.loc 1 0,U,U,U,U,U,U,U,U,U,U,U,U,U,U,U,U,U,U,U,U,U,U,U,U,U,U,U,U,U,U,U,U,U,U,U,U,U,U,U,U,U,U,U,U,U,U,U,U,U,U,U,U,U,U,U,U,U,U,U,U,U,U,U,U,U,U,U,U,U,U,U]/\F=.box 33 [.v (.slice none 0 0),.v (.slice none 0 0),.v (.slice none 0 0),.v (.slice none 0 0)]::vt z.2.1 z.2.2 h/\z.2.1.l=ts/\z.2.1.ok/\z.2.2.le n/\n+z.1<=aaL/\n8 z.1 f z.2.1 z.2.2=some (q,st)) (aaL,⟨ts,0,e,0,0⟩,.empty) ?_ ?_
 ·exact ⟨_,_,Wk.aE ao,⟨none,0,none,0,none,0,none,0⟩,0,rfl,rfl,rfl,⟨aM _,hl⟩,⟨aD _,aD _,aD _,rfl⟩,by simp,h⟩
 clear h;rintro ⟨g,p,s⟩ _ _ ⟨hd,n,rfl,rfl,dJ,hp,hn,Aa,h⟩;simp only at dJ hp hn Aa h
 cases g with
 | zero=>cases h
 | succ g =>
 rw [n8] at h
 by_cases hgo:p.code=0/\p.i < p.l.length
 ·rw [ab hgo] at h
  have dP:(p.code==0)=true:=by simpa using hgo.1
  have ak:decide ((p.i:Int) < ((ts.map dw).length:Int))=true:=by
   have:=hgo.2;rw [dJ] at this;simpa using this
  cases hw:iW f p s with
  | none=>rw [hw] at h;cases h
  | some r =>
   obtain ⟨p2,s2⟩:=r;rw [hw] at h;simp only at h;have lI:=Wq hp hw;refine D ?_;refine cD [1,2,3,4,5] (Td p s hd p2 s2 n hp hn G hw) ?_;rintro _ _ ⟨rfl,dH,rfl⟩;refine eO ?_;refine D ?_;exact ⟨(g,p2,s2),⟨_,_,Wk.aE ao,dH,n+1,rfl,rfl,by rw [lI.1,dJ],lI.ok hp,Wo hw hn,by show n+1+g<=aaL;omega,h⟩,by simp⟩
 ·rw [M hgo] at h
  obtain ⟨rfl,rfl⟩:p=q/\s=st:=by simpa using h
  clear h
  have hex:∀ b1 b2:Bool,(p.code==0)=b1->decide ((p.i:Int) < ((ts.map dw).length:Int))=b2->b1=true->b2=false:=fun b1 b2 L I h3=>by
   subst h3
   cases b2 with
   | false=>rfl
   | true=>exact absurd ⟨by simpa using L,by rw [dJ];simpa using I⟩ hgo
  by_cases hc:p.code=0
  ·rw [ab hc];have hz:=hz hc
   have dP:(p.code==0)=true:=by simpa using hc
   have kG:(p.code != 0)=false:=by simpa using hc
   have ak:=hex _ _ dP rfl rfl;have nP:=hn.trees;have hlf:=hn.fns;have sY:=ln s.trees;have re:=Go.Xp.bW s.trees;refine cl ?_;refine D ?_;refine GW.wk (by apply Wk.oU (t:=52) (i:=2) <;> rfl) ?_;simp only [oset,bo];refine D ?_;refine GW.wk (Wk.jq 62 5) ?_;rw [SL s.fns s.trees]
   refine GW.range s.trees.length (fun k fr F=>∃ aN cN,fr=[U,U,U,U,.loc 0 0,.v (ii 0),.v (ii 0),U,.loc 6 0,U,U,U,U,U,U,U,U,U,U,U,U,U,U,U,U,U,U,U,U,U,U,U,U,U,U,U,U,U,U,U,U,U,U,U,U,U,U,U,U,U,U,U,.sl 1 (jB s.trees),.v (ii (s.trees.length:Int)),.v (ii (k:Nat)),U,U,U,U,U,U,U,U,U,U,U,U,U,U,U,U,U,U,U,U,U,U,U,U]/\F=[.box 33 [.v (.slice none 0 0),.v (.slice none 0 0),.v (.slice none 0 0),.v (.slice none 0 0)],bZ p (hx s hd),.vec 131 1 (jB s.trees).length (jB s.trees),.vech 9 1 (s.globals.map l9) (.slice hd.aG s.globals.length hd.cG),.vech 56 2 (s.arrays.map rN) (.slice hd.aA s.arrays.length hd.cA),.vech 58 3 (od s.fns s.trees k) (.slice hd.aF s.fns.length hd.cF),
    .box 33 [.v (.slice hd.aG s.globals.length hd.cG),.v (.slice hd.aA s.arrays.length hd.cA),.v (.slice hd.aF s.fns.length hd.cF),.v (.slice aN (aB (s.trees.take k)) cN)],.vech 62 5 ((bO 0 (s.trees.take k)).map sO) (.slice aN (aB (s.trees.take k)) cN)]) ?_ G ?_ ?_ ?_
   ·exact ⟨_,_,Wk.aE ao,none,0,rfl,rfl⟩
   ·rintro k _ _ ⟨aN,cN,rfl,rfl⟩;exact et
   ·rintro k _ _ ak ⟨aN,cN,rfl,rfl⟩;obtain ⟨t,ht⟩:∃ t,s.trees[k]?=some t:=⟨s.trees[k],by simp [ak]⟩;have hr:=yU ht;have dE:=Go.Xp.iu ht;have hle:=Go.Xp.ir s.trees (k+1)
    have ji:s.trees.take (k+1)=s.trees.take k++[t]:=by rw [cm,ht];rfl
    obtain ⟨x,vX,IP⟩:=P0 (fns:=s.fns) (trees:=s.trees) (k:=k) k G;rw [M (Nat.lt_irrefl k)] at vX;have FM:k < (od s.fns s.trees k).length:=(bp vX).1
    have hX:((bO 0 (s.trees.take k)).map sO).length=aB (s.trees.take k):=by rw [bP,Go.Xp.iN]
    have iq:=L8 (aQ t) t (aD _) (aB (s.trees.take k)) _ aN cN hX G;rw [<-NK s.fns s.trees k,ji,Go.Xp.kz,Go.Xp.gZ];simp only [bO,aB,cq,Nat.add_zero,cL,iL];generalize (bO 0 (s.trees.take k)).map sO=X at *;generalize aB (s.trees.take k)=z at *;generalize od s.fns s.trees k=R at *;refine D ?_;refine nL ?_;refine D ?_;refine cD [7] iq ?_;rintro _ _ ⟨a5,c5,rfl,rfl⟩;refine eO ?_;refine D ?_;exact ⟨rfl,rfl,_,_,Wk.aE ao,a5,c5,rfl,rfl⟩
   ·rintro _ _ ⟨aN,cN,rfl,rfl⟩;rw [b7]
    have hX:((bO 0 s.trees).map sO).length=aB s.trees:=by rw [bP,Go.Xp.iN]
    by_cases h8:aB s.trees > 800
    ·rw [ab h8]
     have h8':decide ((800:Int) < (aB s.trees:Int))=true:=by simpa using by omega
     generalize aB s.trees=z at *;refine D ?_;refine Cn ?_;exact ⟨_,ik,rfl,rfl⟩
    ·rw [M h8]
     have h8':decide ((800:Int) < (((bO 0 s.trees).map sO).length:Int))=false:=by rw [hX];simpa using by omega
     refine aW ?_;refine GW.wk (by apply Wk.vh (i:=6) (o:=0) (j:=3) <;> rfl) ?_;simp only [oset,bo];refine GW.wk (by apply Wk.vh (i:=6) (o:=1) (j:=4) <;> rfl) ?_;simp only [oset,bo];refine GW.wk (by apply Wk.vh (i:=6) (o:=2) (j:=5) <;> rfl) ?_;simp only [oset,bo];refine GW.wk (by apply Wk.vh (i:=6) (o:=3) (j:=7) <;> rfl) ?_;simp only [oset,bo];refine D ?_;refine mY ?_;exact ⟨rfl,rfl⟩
  ·rw [M hc]
   have dP:(p.code==0)=false:=by simpa using hc
   have kG:(p.code != 0)=true:=by simpa using hc
   refine cl ?_;refine D ?_;refine aK (aC 0 9 (.a 9 (.q 10 (.q 11 .nil)))) ?_;refine bq ?_;refine Cn ?_;exact ⟨_,ik,rfl,rfl⟩
end Go.Xg
namespace Go.Xg
open GV (U)
open Go.RowKit Go.Xw Go.Proofs Tryz
open Go.Xp (Tok Nd T)
open Go.Sp (small ew ei bM fE fa eb)
open Go.Im (mH kJ cZ gY gx kF kM qN lk nS qC)
attribute [local irreducible] GW GL GO YG GC GA be bd
theorem ze (c:UInt8):GF prog 181 [Dw c] [] (.v (.bool (ew c))) []:=by
 unfold ew;refine cY func181 ntmps181 ?_
 cases h:decide ((48:Int)<=(c.toNat:Int))
 all_goals
  exact ay
theorem AV (c:UInt8):GF prog 143 [Dw c] [] (.v (.bool (small c))) []:=by
 unfold small;refine cY func143 ntmps143 ?_
 cases h:decide ((97:Int)<=(c.toNat:Int))
 all_goals
  exact ay
theorem KO (c:UInt8):GF prog 145 [Dw c] [] (.v (.bool (ei c))) []:=by
 unfold ei;have hs:=AV c;have hd:=ze c;generalize small c=b1 at *;generalize ew c=b2 at *;refine ah func145 ntmps145 ?_;refine hY [] hs ?_
 cases b1 with
 | true =>
  exact ay
 | false =>
  cases L:decide ((65:Int)<=(c.toNat:Int)) with
  | true =>
   cases I:decide ((c.toNat:Int)<=90) with
   | true =>
    exact ay
   | false =>
    refine D ?_;refine hY [] hd ?_
    cases b2 with
    | true =>
     exact ay
    | false =>
     exact ay
  | false =>
   refine D ?_;refine hY [] hd ?_
   cases b2 with
   | true =>
    exact ay
   | false =>
    exact ay
theorem Rr (test:FuncId) [hf:aJ prog test] (p:UInt8->Bool) (ht:∀ c,GF prog test [Dw c] [] (.v (.bool (p c))) []) (s:ae) (a:Nat) (hs:s.length<=1099511627776) (ha:a<=s.length) :
  GF prog 144 [.v (sv s),.v (ii (a:Nat)),.v (.func (.func test) #[] #[])] [] (.v (ii (Go.Sp.run s p (s.length+1) a:Nat))) []:=by
 generalize hR:Go.Sp.run s p (s.length+1) a=R;refine ah func144 ntmps144 ?_;refine GW.loop (fun x:Nat × Nat=>x.1) (fun x fr F=>fr=[.v (sv s),.v (ii (x.2:Nat)),.v (.func (.func test) #[] #[]),U,U,U,U,U,U,U,U,U,U,U,U,U,U,U,U,U,U]/\F=[]/\x.2<=s.length/\s.length < x.1+x.2/\Go.Sp.run s p x.1 x.2=R) (s.length+1,a) ?_ ?_
 ·exact ⟨_,_,Wk.aE ao,rfl,rfl,ha,by simp only;omega,hR⟩
 ·rintro ⟨f,a⟩ _ _ ⟨rfl,rfl,ha,BA,h⟩;simp only at ha BA h
  cases f with
  | zero=>omega
  | succ f =>
  rw [Go.Sp.run] at h
  cases hc:s[a]? with
  | none =>
   rw [hc] at h;simp only at h;subst h;have mw:s.length<=a:=qV hc
   have hd:decide ((a:Int) < (s.length:Int))=false:=by simpa using mw
   refine cl ?_;exact ay
  | some c =>
   rw [hc] at h;simp only at h;have ak:a < s.length:=(bp hc).1
   have hd:decide ((a:Int) < (s.length:Int))=true:=by simpa using ak
   have nA:=ht c
   cases hdc:p c with
   | false =>
    rw [hdc] at nA;rw [M (by rw [hdc];simp)] at h;subst h;refine D ?_;refine jz [] nA ?_;refine cl ?_;exact ay
   | true =>
    rw [hdc] at nA;rw [ab hdc] at h;refine D ?_;refine jz [] nA ?_;refine D ?_;exact ⟨(f,a+1),⟨_,_,Wk.aE ao,rfl,rfl,ak,by simp only;omega,h⟩,by simp⟩
theorem NR:Go.Lib.asciiSpaceTab=wz:=by decide
theorem L4:Go.Lib.fields [105,110,116,32,118,97,114,32,102,117,110,99,32,105,102,32,101,108,115,101,32,119,104,105,108,101,32,114,101,116,117,114,110,32,124,124,32,38,38,32,61,61,32,33,61,32,60,61,32,62,61,32,60,60,32,62,62,32,40,32,41,32,123,32,125,32,91,32,93,32,44,32,59,32,61,32,60,32,62,32,43,32,45,32,42,32,47,32,37,32,38,32,124,32,94,32,33,32,126]=mH:=by decide +kernel
theorem pn.A3 {P:Program} {f:FuncId} {vs:List Value} {w:World} {R:Value->World->Prop} (h:Calls P f vs.toArray w fun e w'=>∃ v,e=.returned v/\R v w'):pn P f vs w R:=h
theorem Oy:GF prog 223 [.v (sv [105,110,116,32,118,97,114,32,102,117,110,99,32,105,102,32,101,108,115,101,32,119,104,105,108,101,32,114,101,116,117,114,110,32,124,124,32,38,38,32,61,61,32,33,61,32,60,61,32,62,61,32,60,60,32,62,62,32,40,32,41,32,123,32,125,32,91,32,93,32,44,32,59,32,61,32,60,32,62,32,43,32,45,32,42,32,47,32,37,32,38,32,124,32,94,32,33,32,126])] [] (strs mH) []:=by
 have:=GF.Zu (P:=prog) (f:=223) (vs:=[sv [105,110,116,32,118,97,114,32,102,117,110,99,32,105,102,32,101,108,115,101,32,119,104,105,108,101,32,114,101,116,117,114,110,32,124,124,32,38,38,32,61,61,32,33,61,32,60,61,32,62,61,32,60,60,32,62,62,32,40,32,41,32,123,32,125,32,91,32,93,32,44,32,59,32,61,32,60,32,62,32,43,32,45,32,42,32,47,32,37,32,38,32,124,32,94,32,33,32,126]]) (us:=mH.map sv) (E:=9) fun K β w ht hf=>?_
 ·rw [List.map_map] at this;exact this
 ·obtain ⟨E,z,mf⟩:=tO.all ht hf ht.spc (zs:=wz.map fun z=>Value.int .u8 z) aR (fun m o x hx=>by
   rw [aV] at hx;unfold xT;rw [M aR,M aR,ab rfl]
   cases hs:wz[o]? with
   | none=>rw [hs] at hx;cases hx
   | some y=>rw [hs] at hx;cases hx;rfl)
  have AM:Go.Lib.TabIs prog w "strings.asciiSpace" .u8 Go.Lib.asciiSpaceTab:=by
   unfold Go.Lib.TabIs World.var?;rw [show prog.globalNamed "strings.asciiSpace" = some 1 by kernel_rfl,NR];simp only [Option.bind_some,mf]
  have h:=strings_Fields_laid ⟨[105,110,116,32,118,97,114,32,102,117,110,99,32,105,102,32,101,108,115,101,32,119,104,105,108,101,32,114,101,116,117,114,110,32,124,124,32,38,38,32,61,61,32,33,61,32,60,61,32,62,61,32,60,60,32,62,62,32,40,32,41,32,123,32,125,32,91,32,93,32,44,32,59,32,61,32,60,32,62,32,43,32,45,32,42,32,47,32,37,32,38,32,124,32,94,32,33,32,126].toArray⟩ w aR (fun j b hb=>by
   have:∀ b∈([105,110,116,32,118,97,114,32,102,117,110,99,32,105,102,32,101,108,115,101,32,119,104,105,108,101,32,114,101,116,117,114,110,32,124,124,32,38,38,32,61,61,32,33,61,32,60,61,32,62,61,32,60,60,32,62,62,32,40,32,41,32,123,32,125,32,91,32,93,32,44,32,59,32,61,32,60,32,62,32,43,32,45,32,42,32,47,32,37,32,38,32,124,32,94,32,33,32,126]:List UInt8),b.toNat < 128:=by decide
   exact this b (bF hb)) AM
  refine pn.A3 (Calls.mono h ?_);rintro e w' ⟨L,I⟩;rw [show ((⟨[105,110,116,32,118,97,114,32,102,117,110,99,32,105,102,32,101,108,115,101,32,119,104,105,108,101,32,114,101,116,117,114,110,32,124,124,32,38,38,32,61,61,32,33,61,32,60,61,32,62,61,32,60,60,32,62,62,32,40,32,41,32,123,32,125,32,91,32,93,32,44,32,59,32,61,32,60,32,62,32,43,32,45,32,42,32,47,32,37,32,38,32,124,32,94,32,33,32,126].toArray⟩:ByteArray).data.toList)=[105,110,116,32,118,97,114,32,102,117,110,99,32,105,102,32,101,108,115,101,32,119,104,105,108,101,32,114,101,116,117,114,110,32,124,124,32,38,38,32,61,61,32,33,61,32,60,61,32,62,61,32,60,60,32,62,62,32,40,32,41,32,123,32,125,32,91,32,93,32,44,32,59,32,61,32,60,32,62,32,43,32,45,32,42,32,47,32,37,32,38,32,124,32,94,32,33,32,126] from rfl,L4] at L I;exact ⟨_,L,by rw [bP],I⟩
theorem SQ:GF prog 182 [] [] (strs mH) []:=by
 have h:=Oy;generalize mH=l at *;refine ah func182 ntmps182 ?_;refine V [] h ?_;exact al
theorem AQ (s:ae):GF prog 146 [.v (sv s)] [] (.v (.bool (kJ s))) []:=by
 have h:=SQ;have hc:=kp mH s aR;unfold kJ;generalize mH=l at *;refine ah func146 ntmps146 ?_;refine V [] h ?_;refine V [] hc ?_;exact al
theorem P6 (s:ae) (a:Nat) (c:UInt8) (hs:s.length<=1099511627776) (hc:s[a]?=some c):GF prog 204 [.v (sv s),.v (ii (a:Nat))] [] (.v (sv (gx s a))) []:=by
 have ak:a < s.length:=(bp hc).1;have jh:=AV c;refine ah func204 ntmps204 ?_;refine GW.loop (fun x:Nat=>x) (fun x fr F=>fr=[.v (sv s),.v (ii (a:Nat)),U,U,U,.v (ii (x:Nat)),U,U,U,U,U,U,U,U,U,U,U,U,U,U,U,U,U,U,U,U,U,U,U,U,U,U,U,U,U,U,U,U]/\F=[]/\x<=2/\∀ j,x < j->j<=2->gY s a j=false) 2 ?_ ?_
 ·exact ⟨_,_,Wk.aE ao,rfl,rfl,aD _,fun j L I=>by omega⟩
 ·rintro x _ _ ⟨rfl,rfl,hx,cV⟩
  have r8:∀ k,x=k+1->gY s a x=false->∀ j,k < j->j<=2->gY s a j=false:=fun k hk ht j L I=>by
   by_cases hj:j=x
   ·rw [hj];exact ht
   ·exact cV j G I
  have N5:∀ k,gY s a k=(decide (a+k<=s.length)&&!(small c)&&kJ (cZ s a (a+k))):=fun k=>by unfold gY;rw [hc]
  match x,hx,cV,r8 with
  | 0,_,cV,_ =>
   have e:gx s a=[]:=by unfold gx;rw [cV 2 G G,cV 1 G G];rfl
   rw [e];refine cl ?_;exact ay
  | 1,_,cV,r8 =>
   have hle:decide (((a+1:Nat):Int)<=(s.length:Int))=true:=by simpa using by omega
   have hb:a<=a+1/\a+1<=s.length:=by omega
   have ht:=N5 1;rw [show decide (a+1<=s.length)=true from decide_eq_true G] at ht
   cases hsc:small c with
   | true =>
    rw [hsc] at jh ht;refine D ?_;refine V [] jh ?_;exact ⟨0,⟨_,_,Wk.aE ao,rfl,rfl,by omega,r8 0 rfl ht⟩,by omega⟩
   | false =>
    rw [hsc] at jh ht;have en:=AQ (cZ s a (a+1))
    cases hg:kJ (cZ s a (a+1)) with
    | false =>
     rw [hg] at en ht;refine D ?_;refine V [] jh ?_;refine V [] en ?_;exact ⟨0,⟨_,_,Wk.aE ao,rfl,rfl,by omega,r8 0 rfl ht⟩,by omega⟩
    | true =>
     rw [hg] at en ht
     have e:gx s a=cZ s a (a+1):=by unfold gx;rw [cV 2 G G,ht];rfl
     rw [e];refine D ?_;refine V [] jh ?_;refine V [] en ?_;exact al
  | 2,_,cV,r8 =>
   have ht:=N5 2
   by_cases jc:a+2<=s.length
   ·have hle:decide (((a+2:Nat):Int)<=(s.length:Int))=true:=by simpa using by omega
    have hb:a<=a+2/\a+2<=s.length:=by omega
    rw [show decide (a+2<=s.length)=true by simpa using jc] at ht
    cases hsc:small c with
    | true =>
     rw [hsc] at jh ht;refine D ?_;refine V [] jh ?_;exact ⟨1,⟨_,_,Wk.aE ao,rfl,rfl,by omega,r8 1 rfl ht⟩,by omega⟩
    | false =>
     rw [hsc] at jh ht;have en:=AQ (cZ s a (a+2))
     cases hg:kJ (cZ s a (a+2)) with
     | false =>
      rw [hg] at en ht;refine D ?_;refine V [] jh ?_;refine V [] en ?_;exact ⟨1,⟨_,_,Wk.aE ao,rfl,rfl,by omega,r8 1 rfl ht⟩,by omega⟩
     | true =>
      rw [hg] at en ht
      have e:gx s a=cZ s a (a+2):=by unfold gx;rw [ht];rfl
      rw [e];refine D ?_;refine V [] jh ?_;refine V [] en ?_;exact al
   ·have hle:decide (((a+2:Nat):Int)<=(s.length:Int))=false:=by simpa using by omega
    rw [show decide (a+2<=s.length)=false by simpa using jc] at ht;refine D ?_;exact ⟨1,⟨_,_,Wk.aE ao,rfl,rfl,by omega,r8 1 rfl ht⟩,by omega⟩
  | n+3,hx,_,_=>omega
def KQ (n:Int) (e:Nat) (a:Nat):GV:=if n > 2147483647 then .tup [.agg (dw qN),.v (ii (a:Nat)),.v (ii 3)] else .tup [.agg (dw ⟨1,n,[],a⟩),.v (ii (e:Nat)),.v (ii 0)]
theorem N2 (s:ae) (a:Nat) (c:UInt8) (hs:s.length<=1099511627776) (hc:s[a]?=some c) (hd:ew c=true) :
  GF prog 167 [.v (sv s),.v (ii (a:Nat))] [] (KQ (kM (cZ s a (kF s a)) 0) (kF s a) a) []:=by
 have ak:a < s.length:=(bp hc).1;have nA:=ze c;rw [hd] at nA;have nQ:=Rr 181 ew ze s a hs G;obtain ⟨e1,e2,e3⟩:=Go.Sp.qh s ew (s.length+1) a G G;have aY:=Go.Im.Da s ew (s.length+1) a G;unfold kF;generalize Go.Sp.run s ew (s.length+1) a=e at *;clear e1;generalize hR:kM (cZ s a e) 0=R;refine ah func167 ntmps167 ?_;refine V [] nA ?_;refine V [] nQ ?_;refine GW.loop (fun x:Nat × Int=>e - x.1) (fun x fr F=>fr=[.v (sv s),.v (ii (a:Nat)),U,U,.loc 0 0,.v (ii 0),.v (ii 0),U,.v (ii (e:Nat)),.v (ii x.2),.v (ii (x.1:Nat)),U,U,U,U,U,U,U,U,U,U,U,U,U,U,U,U,U,U,U,U,U,U,U,U,U,U,U,U,U,U,U,U,U,U,U,U,U,U,U,U,U,U,U,U,U,U,U,U,U,U,U,U,U,U,U,U,U,U,U,U,U,U,U,U,U,U,U,U,U,U]/\F=[.box 183 (dw qN)]/\a<=x.1/\x.1<=e/\kM (cZ s x.1 e) x.2=R/\0<=x.2/\x.2<=21474836480) (a,0) ?_ ?_
 ·exact ⟨_,_,Wk.aE ao,rfl,rfl,aD _,e2,hR,by simp,by simp⟩
 ·rintro ⟨i,n⟩ _ _ ⟨rfl,rfl,hi,hie,h,DR,BE⟩;simp only at hi hie h DR BE
  have fin:R=n->True:=fun _=>trivial
  by_cases nP:i < e
  ·have Mz:decide ((i:Int) < (e:Int))=true:=by simpa using nP
   by_cases hn:n<=2147483647
   ·have BD:decide (n<=2147483647)=true:=by simpa using hn
    have sV:i < s.length:=by omega
    obtain ⟨d,dH⟩:∃ d,s[i]?=some d:=⟨s[i],by simp [sV]⟩
    have gw:ew d=true:=by
     have:d∈cZ s a e:=by
      unfold cZ;rw [List.mem_iff_getElem?];exact ⟨i - a,by rw [List.getElem?_drop,List.getElem?_take,show a+(i - a)=i by omega,ab nP];exact dH⟩
     exact aY d this
    have yC:(48:Int)<=(d.toNat:Int)/\(d.toNat:Int)<=57:=by
     simp only [ew,aH,decide_eq_true_eq] at gw;exact gw
    rw [Go.Im.p8 dH nP e3,kM,ab hn] at h;refine D ?_;exact ⟨(i+1,10 * n+((d.toNat:Int) - 48)),⟨_,_,Wk.aE ao,rfl,rfl,by simp only;omega,nP,h,by simp only;omega,by simp only;omega⟩,by simp only;omega⟩
   ·have BD:decide (n<=2147483647)=false:=by simpa using hn
    have ef:R=n:=by
     rw [<-h]
     cases hw:cZ s i e with
     | nil=>rw [kM]
     | cons d r=>rw [kM,M hn]
    rw [ef];clear h ef hR fin
    have bV:decide (2147483647 < n)=true:=by simpa using by omega
    unfold KQ;rw [ab G];refine cl ?_;refine D ?_;refine mY ?_;exact ⟨rfl,rfl⟩
  ·have Mz:decide ((i:Int) < (e:Int))=false:=by simpa using by omega
   have ef:R=n:=by
    rw [<-h];have:cZ s i e=[]:=gJ (by rw [Go.Im.lU e3];omega);rw [this,kM]
   rw [ef];clear h ef hR fin;unfold KQ
   by_cases hn:n > 2147483647
   ·have bV:decide (2147483647 < n)=true:=by simpa using hn
    rw [ab hn];refine cl ?_;refine D ?_;refine mY ?_;exact ⟨rfl,rfl⟩
   ·have bV:decide (2147483647 < n)=false:=by simpa using hn
    rw [M hn];refine cl ?_;refine D ?_;refine mY ?_;exact ⟨rfl,rfl⟩
theorem Tc (s:ae) (a:Nat) (c:UInt8) (hs:s.length<=1099511627776) (hc:s[a]?=some c) :
  GF prog 167 [.v (sv s),.v (ii (a:Nat))] [] (.tup [.agg (dw (lk s a c).1),.v (ii ((lk s a c).2.1:Nat)),.v (ii (lk s a c).2.2)]) []:=by
 have ak:a < s.length:=(bp hc).1;have nA:=ze c;have jh:=AV c
 by_cases hd:ew c=true
 ·have h:=N2 s a c hs hc hd;unfold KQ at h;unfold lk;rw [ab hd];split at h
  ·rename_i hn;rw [ab hn];exact h
  ·rename_i hn;rw [M hn];exact h
 ·have My:ew c=false:=by simpa using hd
  unfold lk;rw [M hd];rw [My] at nA
  by_cases hsc:small c=true
  ·rw [ab hsc];rw [hsc] at jh;have nQ:=Rr 145 ei KO s a hs G;obtain ⟨e1,e2,e3⟩:=Go.Sp.qh s ei (s.length+1) a G G;have hw:fE s a=(s.take (fa s a)).drop a:=rfl;have en:=AQ (fE s a);unfold fa at hw |-;rw [hw] at en |-;generalize Go.Sp.run s ei (s.length+1) a=e at *;have hb:a<=e/\e<=s.length:=⟨e2,e3⟩
   cases hg:kJ ((s.take e).drop a) with
   | true =>
    rw [hg] at en;refine ah func167 ntmps167 ?_;refine V [] nA ?_;refine V [] jh ?_;refine V [] nQ ?_;refine V [] en ?_;refine mY ?_;exact ⟨rfl,rfl⟩
   | false =>
    rw [hg] at en;refine ah func167 ntmps167 ?_;refine V [] nA ?_;refine V [] jh ?_;refine V [] nQ ?_;refine V [] en ?_;refine mY ?_;exact ⟨rfl,rfl⟩
  ·have Zf:small c=false:=by simpa using hsc
   rw [M hsc];rw [Zf] at jh;have XG:=P6 s a c hs hc
   have hlen:(gx s a).length<=2:=by
    have:(gx s a=cZ s a (a+2)\/gx s a=cZ s a (a+1))\/gx s a=[]:=by
     unfold gx;split
     ·exact .inl (.inl rfl)
     ·split
      ·exact .inl (.inr rfl)
      ·exact .inr rfl
    rcases this with (h | h) | h <;> rw [h]
    ·unfold cZ;rw [iK,cS];omega
    ·unfold cZ;rw [iK,cS];omega
    ·simp
   generalize gx s a=x at *
   by_cases hx:x=[]
   ·have yG:(x==[])=true:=by simpa using hx
    rw [ab hx];refine ah func167 ntmps167 ?_;refine V [] nA ?_;refine V [] jh ?_;refine V [] XG ?_;refine mY ?_;exact ⟨rfl,rfl⟩
   ·have yG:(x==[])=false:=by simpa using hx
    rw [M hx];refine ah func167 ntmps167 ?_;refine V [] nA ?_;refine V [] jh ?_;refine V [] XG ?_;refine mY ?_;exact ⟨rfl,rfl⟩
def CO (x t:ae):Bool:=decide (t.length<=x.length)&&(x.take t.length==t)
theorem JP (x t:ae) (hx:x.length<=1099511627776) (ht:t.length<=1099511627776):GF prog 202 [.v (sv x),.v (sv t)] [] (.v (.bool (CO x t))) []:=by
 unfold CO
 by_cases h:t.length<=x.length
 ·have L:decide ((t.length:Int)<=(x.length:Int))=true:=by simpa using h
  rw [decide_eq_true h];refine ah func202 ntmps202 ?_;exact al
 ·have L:decide ((t.length:Int)<=(x.length:Int))=false:=by simpa using by omega
  rw [decide_eq_false h];refine ah func202 ntmps202 ?_;exact al
theorem Hm (x t:ae) (hx:x.length<=1099511627776) (ht:t.length<=1099511627776):GF prog 165 [.v (sv x),.v (sv t)] [] (.v (.bool (CO x t))) []:=by
 have h:=JP x t hx ht;generalize CO x t=b at *;refine ah func165 ntmps165 ?_;refine V [] h ?_;exact al
theorem Hw {s t:ae} {a:Nat} (ha:a<=s.length):CO (s.drop a) t=bM s a t:=by
 unfold CO bM;rw [iK,List.drop_take,show a+t.length - a=t.length by omega]
 congr 1
 rw [Bool.eq_iff_iff];simp;omega
theorem Hn (c:UInt8):GF prog 164 [.v (sv [32,9,10,13]),Dw c] [] (.v (ii (Go.Lib.indexByte [32,9,10,13] c))) []:=by
 refine GF.U3 (vs:=[sv [32,9,10,13],.int .u8 (c.toNat:Int)]) fun K β w ht hf=>?_
 refine pn.A3 (Calls.mono (strings_IndexByte ⟨[32,9,10,13].toArray⟩ (c.toNat:Int) w) ?_);rintro e w' ⟨L,I⟩;refine ⟨_,L,?_,by rw [I];exact Ext.refl w⟩;simp
theorem OB (x:ae) (hx:x.length<=4294967280):GF prog 166 [.v (sv x),.v (sv [42,47])] [] (.v (ii (Go.Lib.index x [42,47]))) []:=by
 refine GF.U3 (vs:=[sv x,sv [42,47]]) fun K β w ht hf=>?_
 obtain ⟨m,hm⟩:=ht.maxLen hf;refine pn.A3 (Calls.mono (strings_Index ⟨x.toArray⟩ ⟨[42,47].toArray⟩ m w (by show (x.toArray).size < _;simp;omega) hm) ?_);rintro e w' ⟨L,I⟩;refine ⟨_,L,?_,by rw [I];exact Ext.refl w⟩;simp
theorem OH (c:UInt8):decide ((0:Int)<=Go.Lib.indexByte [32,9,10,13] c)=eb c:=by
 have hb:eb c=((32:UInt8)==c || (9:UInt8)==c || (10:UInt8)==c || (13:UInt8)==c):=by
  have e:∀ k:UInt8,((c.toNat:Int)==(k.toNat:Int))=(k==c):=fun k=>by
   rw [Bool.eq_iff_iff];simp only [beq_iff_eq]
   exact ⟨fun h=>by
    have:c.toNat=k.toNat:=by omega
    exact (UInt8.toNat_inj.1 this).symm,fun h=>by rw [h]⟩
  have e1:=e 32;have e2:=e 9;have e3:=e 10;have e4:=e 13;unfold eb;rw [<-e1,<-e2,<-e3,<-e4];rfl
 rw [hb];unfold Go.Lib.indexByte Go.Lib.indexByte Go.Lib.indexByte Go.Lib.indexByte Go.Lib.indexByte
 cases (32:UInt8)==c <;> cases (9:UInt8)==c <;> cases (10:UInt8)==c <;> cases (13:UInt8)==c <;> decide
theorem M3 (l:ae):Go.Lib.index l [42,47]=(match qC l with | none => -1 | some n=>(n:Int)):=by
 induction l with
 | nil=>rfl
 | cons b l ih =>
  rw [Go.Lib.index,qC];split
  ·rfl
  ·rw [ih]
   cases qC l with
   | none=>rfl
   | some n =>
    simp only;rw [M (by simp <;> omega)];simp
theorem PK (s:ae) (f:Nat) (ts:List Tok) (c z:Int) (hs:s.length<=4294967280) (h:nS s f 0 []=some (ts,c,z)) :
  GF prog 116 [.v (sv s)] [] (.tup [jx ts,.v (ii c),.v (ii z)]) []:=by
 refine ah func116 ntmps116 ?_;refine GW.wk (Wk.C1 (t:=5) (a:=none) (c:=0) 183 4 rfl) ?_;refine GW.loop (fun x:Nat × Nat × List Tok=>x.1) (fun x fr F=>∃ n rows,fr=[.v (sv s),U,.v (.slice none 0 0),.v (ii 0),.v (ii 0),.vec 0 n,.v (ii (x.2.1:Nat)),U,U,U,U,U,U,U,U,U,U,U,U,U,U,U,U,U,U,U,U,U,U,U,U,U,U,U,U,U,U,U,U,U,U,U,U,U,U,U,U,U,U,U,U,U,U,U,U]/\F=[.vec 183 4 0 rows]/\rows.length=n/\rows=x.2.2.map dw/\x.2.1<=s.length/\n<=x.2.1/\nS s x.1 x.2.1 x.2.2=some (ts,c,z)) (f,0,[]) ?_ ?_
 ·exact ⟨_,_,Wk.aE ao,0,[],rfl,rfl,rfl,rfl,aM _,aD _,h⟩
 ·clear h;rintro ⟨f,a,acc⟩ _ _ ⟨n,rows,rfl,rfl,hn,bL,ha,IJ,h⟩;simp only at bL ha IJ h
  cases f with
  | zero=>cases h
  | succ f =>
  rw [nS] at h
  cases hc:s[a]? with
  | none =>
   rw [hc] at h;cases h;have mw:s.length<=a:=qV hc
   have hd:decide ((a:Int) < (s.length:Int))=false:=by simpa using mw
   refine cl ?_;refine GW.wk (Wk.jv (t:=5) rfl rfl rfl hn) ?_;refine D ?_;refine JC ?_;exact ⟨by rw [bL];rfl,rfl⟩
  | some ch =>
   rw [hc] at h;simp only at h;have ak:a < s.length:=(bp hc).1
   have hd:decide ((a:Int) < (s.length:Int))=true:=by simpa using ak
   have MH:=Hn ch;have qb:=OH ch
   cases hb:eb ch with
   | true =>
    rw [ab hb] at h;rw [hb] at qb;generalize Go.Lib.indexByte [32,9,10,13] ch=ib at *;refine D ?_;refine V [] MH ?_;refine jY ?_;exact ⟨(f,a+1,acc),⟨_,_,Wk.aE ao,n,rows,rfl,rfl,hn,bL,ak,by simp only;omega,h⟩,by simp⟩
   | false =>
    rw [M (by rw [hb];decide)] at h;rw [hb] at qb;generalize Go.Lib.indexByte [32,9,10,13] ch=ib at *;have ou:=Hm (s.drop a) [47,42] (by rw [iK];omega) aR;rw [Hw ha] at ou
    cases pA:bM s a [47,42] with
    | true =>
     rw [ab pA] at h;rw [pA] at ou;have n5:=Go.Sp.kq pA;simp only [length_cons,length_nil] at n5;have yu:=OB (s.drop (a+2)) (by rw [iK];omega);rw [M3] at yu
     have DM:a+2<=s.length:=by omega
     cases hi:qC (s.drop (a+2)) with
     | none =>
      rw [hi] at yu h;cases h;refine D ?_;refine V [] MH ?_;refine V [] ou ?_;refine V [] yu ?_;refine rT ?_;exact ⟨_,ik,rfl,rfl⟩
     | some e =>
      rw [hi] at yu h;have eI:=Go.Im.CR hi;rw [iK] at eI
      have Um:decide (((e:Nat):Int) < 0)=false:=by simp
      refine D ?_;refine V [] MH ?_;refine V [] ou ?_;refine V [] yu ?_;refine jY ?_;exact ⟨(f,a+(e+4),acc),⟨_,_,Wk.aE ao,n,rows,rfl,rfl,hn,bL,by simp only;omega,by simp only;omega,h⟩,by simp⟩
    | false =>
     rw [M (by rw [pA];decide)] at h;rw [pA] at ou;have ji:=Tc s a ch G hc
     have eW:=fun h0=>Go.Im.JA hc h0
     generalize lk s a ch=R at *;obtain ⟨t,e,code⟩:=R;simp only at ji h eW
     by_cases h0:code=0
     ·rw [M (by simpa using h0)] at h
      have ub:(code != 0)=false:=by simpa using h0
      obtain ⟨_,_,k3,k4⟩:=eW h0;refine D ?_;refine V [] MH ?_;refine V [] ou ?_;refine V [] ji ?_;refine eu ?_;refine D ?_;exact ⟨(f,e,acc++[t]),⟨_,_,(Wk.cut (n:=1) (fO rfl) rfl).trans (Wk.aE ao),_,_,rfl,rfl,by simp [hn],by rw [iL,bL];rfl,k4,by simp only;omega,h⟩,by simp⟩
     ·rw [ab h0] at h
      have ub:(code != 0)=true:=by simpa using h0
      cases h;refine D ?_;refine V [] MH ?_;refine V [] ou ?_;refine V [] ji ?_;refine rT ?_;exact ⟨_,ik,rfl,rfl⟩
end Go.Xg
