/- Part 8 of proofs that are told in their last texts. -/
import Derived.Test.YthgncfaljaocoaaGreatDoorY4
import Derived.ProofKit
import Derived.Below
import Derived.ChangeSame
import Derived.Test.YthgncfaljaocoaaGreatDoorY6
import Derived.Lib.Builder
import Derived.Lib.UnsafeStr
import Derived.Shelf.Strings.Builder1
import Derived.Shelf.Strings.Builder2
import Derived.Shelf.Small.Strs
import Derived.Shelf.Strings.BuilderF
import Derived.Shelf.Strconv.Itoa0
import Derived.Shelf.Strconv.Itoa1
import Derived.Shelf.LaysM
import Derived.Shelf.Strconv.Itoa2
import Derived.Shelf.Strconv.Itoa3
import Derived.Shelf.Strings.Search1
import Derived.Shelf.Strings.Search2
import Derived.Shelf.Strings.Search3
import Derived.Shelf.Strings.Shaped
import Derived.Shelf.Strings.Prefix
import Derived.Shelf.Strings.Fields
import Derived.Shelf.Strings.SplitShaped
import Derived.Shelf.Unicode.Latin
import Derived.Shelf.Unicode.Is16White
import Derived.Shelf.Unicode.IsSpaceAny
import Derived.Shelf.Unicode.Is16Any
import Derived.Shelf.Unicode.Is32Any
import Derived.Shelf.Unicode.ExclAny
import Derived.Test.YthgncfaljaocoaaGreatDoorProg
import Derived.Test.YthgncfaljaocoaaGreatDoorY5
import Derived.Test.YthgncfaljaocoaaGreatDoorY2
import Derived.Test.YthgncfaljaocoaaGreatDoorY7
import Derived.Test.YthgncfaljaocoaaGreatDoorY1
import Derived.Laws.StructEq
open List (all_eq_true append_assoc getD_cons_succ getD_cons_zero getElem?_map getElem_mem length_append length_cons length_map length_nil map_append map_nil mem_map mem_of_getElem? mem_singleton sum_cons take_add_one take_length)
set_option linter.unusedVariables false
set_option linter.unusedSimpArgs false
set_option maxRecDepth 100000
namespace Go.Xw
open Go.RowKit Go.WideShapes Go.ChangeShapes
section
variable {H:Type} {enc:TypeId × Value->H} {P:Program}
theorem mh {f:Func} {s:ChangeSpec} {apart fresh handsOn again:Bool} {W W':World} {args:Array Value} {v:Value} {ds gs:List (DataW H)} {before pa pv:List MemPlace}
  (hW:DataW.Whole enc P f.params.toList s.vars apart W args.toList ds gs before)
  (S8:∀ (b:Nat) (sp:Nat->Bool) (hd:Bool),DataW.TrodAll enc P W' b sp hd f.resultTypes.toList (v.resultList f.resultTypes.size) (s.fn H (ds++gs)).results [])
  (rR:∀ sp:Nat->Bool,(∀ p∈before,sp p.block=true)->DataW.TrodAll enc P W' 0 sp true f.params.toList args.toList (s.fn H (ds++gs)).args pa)
  (PV:∀ sp:Nat->Bool,(∀ p∈before,sp p.block=true)->DataW.TrodVars enc P W' sp s.vars (s.fn H (ds++gs)).vars pv)
  (CV:before=pa++pv) (hb:Below W.heap.size W W')
  (fc:∀ (j:Nat) (t:TypeId) (r:Value),f.resultTypes[j]?=some t->(v.resultList f.resultTypes.size)[j]?=some r->Value.okWide P W' .any 0 t r) :
  s.post enc P f apart fresh handsOn again W args v W':=by
 have ao:∀ p∈before,p.block < W.heap.size:=fun p hp=>hW.lt p hp
 have hold:∀ p∈before,(fun b=>decide (b < W.heap.size)) p.block=true:=fun p hp=>by simpa using ao p hp
 refine ⟨ds,gs,before,[],pa,pv,hW,S8 _ _ _,rR _ hold,PV _ hold,World.keptBut_mono (fun p hp=>⟨hp,?_⟩) (hb.frame (·∈before)),fun _=>?_⟩
 ·rw [CV,List.mem_append] at hp;exact Or.inr hp
 ·obtain ⟨_,_,_,_,_,hz,hn⟩:=hW;refine ⟨fc,_,_,([]++pa)++pv,⟨[]++pa,pv,trodAll_append (rR _ (fun _ _=>rfl)) (S8 _ _ _),PV _ (fun _ _=>rfl),rfl,?_,?_⟩,?_⟩
  ·intro b off hp
   have gW:MemPlace.cell b off∈before:=by rw [CV];simpa using hp
   rw [hb.frozen (ao _ gW)];exact hz b off gW
  ·intro ha;have:=hn ha;rw [CV] at this;simpa using this
  ·intro p hp _;rw [CV];simpa using hp
end
end Go.Xw
namespace Go.Xg
open Go.RowKit Go.Xw
class Bw (P:Program) (t:TypeId):Prop where
 und:∃ e j,P.underlying t=some (.pointer e)/\P.info? e=some j
theorem Bw.mk' {P:Program} {t e:TypeId} (h:P.underlying t=some (.pointer e)) (k:(P.info? e).isSome=true):Bw P t:=⟨e,(P.info? e).get k,h,by simp⟩
section
variable {P:Program} {m:Nat} {Q:dR} {fr:List GV} {Γ:List Ob} {ops:Array Oper} {rest:List Oper} {d:Option Tmp} {op:Op} {ty:TypeId} {pos:String} {af:Array Edge}
theorem YG.pe {x y:Operand} {t t':TypeId} [hT:Bw P t] {i o:Nat} (hx:aM fr x=.loc i o) (hy:aM fr y=.v (.pointer none)):YG P (.binOp .eql t x y t') fr Γ (.v (.bool false)):=fun B K β w l hI hF=>by
 have h:=hF.ev x;rw [hx] at h;generalize hv:ev l x=v at h
 cases h with
 | loc _ _ b hb =>
  obtain ⟨e,j,h1,h2⟩:=hT.und
  have hp:P.pointee t=e:=by simp [Program.pointee,h1]
  have:=run_eql_pointer_nil (P:=P) w t (some ⟨b,o,none⟩) (by rw [hp];exact h1);refine ⟨_,fun d ty pos af=>?_,.v _⟩;simp [execOp,eqGuard,hv,hF.gU hy,this]
theorem YG.pI {x y:Operand} {t t':TypeId} [hT:Bw P t] {i o:Nat} (hx:aM fr x=.loc i o) (hy:aM fr y=.loc i o):YG P (.binOp .neq t x y t') fr Γ (.v (.bool false)):=fun B K β w l hI hF=>by
 have h:=hF.ev x;rw [hx] at h;have h':=hF.ev y;rw [hy] at h';generalize hv:ev l x=v at h;generalize A0:ev l y=v' at h'
 cases h with
 | loc _ _ b hb =>
  cases h' with
  | loc _ _ b' aY =>
   rw [hb] at aY;cases aY;obtain ⟨e,j,h1,h2⟩:=hT.und;have:=Lib.run_neq_ptr_same (P:=P) w ⟨b,o,none⟩ h1 h2;refine ⟨_,fun d ty pos af=>?_,.v _⟩;simp [execOp,eqGuard,hv,A0,this]
theorem Inv.again {B:Bs} {K:Fz} {β:Bt} {Γ:List Ob} {w w':World} {i E k:Nat} {rows:List (List GV)} {x:Value} {xs:List Value} (h:Inv B K β Γ w) (hi:Γ[i]?=some (.vech E k rows x)) (ho:gQ w' 0 E k x rows.length xs) (hr:aU K β xs rows.flatten)
  (hx:Ext (fun b=>x.ownBlock=some b) w w'):Inv B K β Γ w':=by
 obtain ⟨xs0,h1,h2,h3,h4,h5⟩:=h.ob i _ hi
 have ej:∀ b,x.ownBlock=some b->(β i).blk=some b:=fun b hb=>by rw [h1];exact hb
 refine ⟨h.ext.step hx (fun j hj=>(h.own i j (ej j hj)).symm),h.kle,h.ble,h.loc,h.fz.ext hx (fun b o g hg he=>by rw [h5 b he o] at hg;cases hg),fun j y hj=>?_,h.out,h.dis,h.own,h.kn,h.tab.step hx (fun j hj=>⟨i,ej j hj⟩) (cw.refl K) (fun i b2 h=>.inl ⟨i,h⟩)⟩
 by_cases hji:j=i
 ·subst hji;rw [hi] at hj;cases hj;exact ⟨xs,h1,ho,hr,h4,h5⟩
 ·exact (h.ob j y hj).ext hx (fun b hb he=>hji (h.dis j i b hb (ej b he))) (cw.refl K) (de.refl β) rfl (fun _ _ _ h=>h)
theorem GL.Uu {s x:Operand} {t u e:Nat} [hT:Cz P t e] [hU:o8 P u] (i:Nat) {n:Nat} {dt:Tmp} {v:Value} {rows:List (List GV)} {str:ae} (hx:aM fr x=.v (sv str)) (hs:aM fr s=.v v) (br:Γ[i]?=some (.vech e 1 rows v)) (hn:rows.length=n) (bN:str.isEmpty=false)
  (hb:n+str.length<=140737488355328)
  (h:∀ a c,GL P m ops Q rest (bf fr (some dt) (.v (.slice a (n+str.length) c))) (oset Γ i (.vech e 1 (rows++bY str) (.slice a (n+str.length) c)))) :
  GL P m ops Q (⟨some dt,.call ⟨.builtin .append,#[s,x],#[t,u]⟩,ty,pos,af,none⟩::rest) fr Γ:=fun B K β w l hm hI hF=>by
 subst hn
 have bN:str≠[]:=by intro h0;rw [h0] at bN;cases bN
 obtain ⟨xs,o1,o2,o3,o4,o5⟩:=hI.ob i _ br;have qc:ev l s=v:=hF.gU hs
 have gV:(bY str).flatten=str.map fun c=>GV.v (.int .u8 (c.toNat:Int)):=by
  unfold bY;clear hx bN hb h;generalize str=s
  induction s with
  | nil=>rfl
  | cons c r ih=>simp only [List.map_cons,List.flatten_cons,ih];rfl
 have hlen:(bY str).length=str.length:=by simp [bY]
 refine WL.BA (base:=0) (v:=v) (n:=rows.length) (xs:=xs) (str:=str) qc o2 (hF.gU hx) hb (Nat.zero_le _) ?_;intro v' w' how gC tQ vb
 obtain ⟨K',hK,qd,bc⟩:=(hI.Bo br).grow (fz:=0) (oJ br) o1 ⟨o2,o3⟩ (news:=bY str) (ns:=kh str) (by rw [hlen];exact how) gC tQ (by rw [gV];exact (by
   have:(str.map fun c=>GV.v (.int .u8 (c.toNat:Int)))=ji (kh str):=by simp [ji,kh]
   rw [this];exact aU.self)) (fun r hr=>by
   simp only [bY,mem_map] at hr;obtain ⟨c,_,rfl⟩:=hr
   exact ⟨rfl,fun g hg=>by rw [mem_singleton] at hg;subst hg;rfl⟩) (by intro h0;exact bN (List.map_eq_nil_iff.1 h0)) (fun b aY o v ho hv=>by omega)
 rw [<-aV,nq] at bc;obtain ⟨a,c,px,oO⟩:=bc.zO (oJ br);rw [nq] at oO;obtain ⟨a',c',rfl⟩:=how.shape;rw [bh] at px;simp only [length_append,hlen] at px oO qd;cases px;exact h _ _ B K' _ w' _ hm oO ((hF.mono hK qd).put (some dt) (.v _))
theorem GL.Ut {s x:Operand} {t u e:Nat} [hT:Cz P t e] [hU:o8 P u] (i:Nat) {rows:List (List GV)} {v:Value} (hx:aM fr x=.v (sv [])) (hs:aM fr s=.v v) (br:Γ[i]?=some (.vech e 1 rows v)) (hb:rows.length<=140737488355328)
  (h:GL P m ops Q rest (bf fr d (.v v)) Γ):GL P m ops Q (⟨d,.call ⟨.builtin .append,#[s,x],#[t,u]⟩,ty,pos,af,none⟩::rest) fr Γ:=fun B K β w l hm hI hF=>by
 obtain ⟨xs,o1,o2,o3,o4,o5⟩:=hI.ob i _ br;have qc:=hF.gU hs;have rl:=hF.gU hx;obtain ⟨hu,i',hi,hz,b6,xr⟩:=hT.is;have vc:(⟨([]:ae).toArray⟩:ByteArray).size=0:=rfl;obtain ⟨v',w',hr,h2,h3,h4⟩:=Lib.run_append_own_string (P:=P) w 0 t u ty e i' hu hU.und hi hz b6 xr v rows.length xs o2 ⟨([]:ae).toArray⟩ (by rw [vc];simp only [maxLen];omega) (by rw [vc];omega) (Nat.zero_le _)
 have A0:v'=v:=by
  rcases o2.2 with ⟨rfl,h6⟩ | ⟨g,cap,cur,rfl,og,hg,p7,y7,fG,AZ⟩
  ·exact h4.2 ⟨rfl,rfl⟩
  ·have SK:cur.size=cap:=by simpa using fG
   have dj:=Lib.run_append_room_string (P:=P) w t u ty e i' hu hU.und hi b6 g rows.length cap cur hg ⟨([]:ae).toArray⟩ (by rw [vc];omega) (by unfold maxLen at y7;rw [vc];omega);rw [hr] at dj;cases dj;rfl
 subst A0;have mz:(Builtin.append_ #[t,u] ty #[v',sv []]).run P w=.ok v' w':=hr;have fG:Lib.strCells ⟨([]:ae).toArray⟩=[]:=rfl;rw [fG,List.append_nil] at h2;have gC:Ext (fun b=>v'.ownBlock=some b) w w':=⟨h3.os,h3.tape,h3.output,h3.size,fun j hj hn=>h3.block j hj fun he=>hn he.symm⟩;have bc:=hI.again br h2 o3 gC;exact WL.val (v:=v') (w':=w') (by simp [execOp,resolve,invoke,builtin,qc,rl,mz]) (h B K β w' _ hm bc (hF.put d (.v _)))
theorem YG.ry {x:Operand} {t:TypeId} (i:Nat) {E n c:Nat} {a:Option Addr} {rows:List (List GV)} (hx:aM fr x=.v (.slice a n c)) (br:Γ[i]?=some (.vech E 1 rows (.slice a n c))) (hn:rows.length=n) (hp:Nat.blt 0 n=true) :
  YG P (.call ⟨.builtin .unsafeSliceData,#[x],#[t]⟩) fr Γ (.vp i n 1 0 0):=fun B K β w l hI hF=>by
 subst hn
 have hp:0 < rows.length:=by simpa using hp
 obtain ⟨xs,h1,h2,h3,h4,h5⟩:=hI.ob i _ br;have hv:=hF.gU hx
 rcases h2.2 with ⟨h8,h9⟩ | ⟨g,cap,cur,h8,_,hg,p7,_⟩
 ·omega
 ·cases h8
  have hr:=fun ts ty=>Lib.run_unsafeSliceData_row (P:=P) (w:=w) ts ty ⟨g,0,none⟩ rows.length c (by omega)
  exact ⟨.pointer (some ⟨g,0,none⟩),fun d ty pos af=>by simp [execOp,resolve,invoke,builtin,hv,hr],.vp i _ 1 0 0 _ ⟨_,_,h1,Nat.le_refl _,fun _=>⟨g,rfl,by simp⟩⟩⟩
theorem GL.MW {x y:Operand} {pt it e:TypeId} (i:Nat) {str:ae} {rows:List (List GV)} {v:Value} (hp:P.underlying pt=some (.pointer e)) (hc:P.cellsOf e=1) (hx:aM fr x=.vp i str.length 1 0 0) (hy:aM fr y=.v (ii str.length)) (br:Γ[i]?=some (.vech e 1 rows v)) (jO:rows=bY str)
  (bN:str.isEmpty=false) (hb:str.length<=140737488355328)
  (h:GL P m ops Q rest (bf fr d (.v (sv str))) (oset Γ i .lost)):GL P m ops Q (⟨d,.call ⟨.builtin .unsafeString,#[x,y],#[pt,it]⟩,ty,pos,af,none⟩::rest) fr Γ:=fun B K β w l hm hI hF=>by
 have bN:str≠[]:=by intro h0;rw [h0] at bN;cases bN
 subst jO;obtain ⟨xs,o1,o2,o3,o4,o5⟩:=hI.ob i _ br
 have hlen:(bY str).length=str.length:=by simp [bY]
 have hr:=hF.ev x;rw [hx] at hr;have Tk:=hF.gU hy;generalize hv:ev l x=u at hr
 cases hr with
 | vp _ _ _ _ _ _ hh =>
  obtain ⟨h0,mm,e1,e2,e3⟩:=hh;rw [e1] at o1;cases o1;obtain ⟨b,Hx,rfl⟩:=e3 hlen
  rcases o2.2 with ⟨h8,h9⟩ | ⟨g,cap,cur,h8,_,hg,p7,y7,fG,AZ⟩
  ·rw [hlen] at h9;exact absurd (List.eq_nil_of_length_eq_zero h9) bN
  ·subst h8;simp only [Value.ownBlock,Option.some.injEq] at Hx;subst Hx
   have rL:xs=kh str:=by
    have gV:(bY str).flatten=ji (kh str):=by
     have:(bY str).flatten=str.map fun c=>GV.v (.int .u8 (c.toNat:Int)):=by
      unfold bY;generalize str=s
      induction s with
      | nil=>rfl
      | cons c r ih=>simp only [List.map_cons,List.flatten_cons,ih];rfl
     rw [this];simp [ji,kh]
    rw [gV] at o3;apply List.ext_getElem
    ·have:=o3.1;simpa [ji] using this
    ·intro j h1 h2;have:=o3.2 j xs[j] (.v (kh str)[j]) (by simp [h1]) (by simp [ji,h2]);exact Rel.eg this
   have kX:∀ j y,str[j]?=some y->w.cell? ((⟨g,0,none⟩:Addr).add j)=some (.int .u8 y.toNat):=fun j y hy=>by
    have:=World.ownsRow.cells (g:=g) o2 rfl j (.int .u8 y.toNat) (by rw [rL];simp [kh,hy]);exact this
   have ZF:(bY str).length<=cur.size:=by rw [fG];omega
   have mz:=Lib.run_unsafeString_row (P:=P) w pt it ty e hp hc g cur.size (by simp [World.shape?,hg]) str bN (by omega) (by omega) kX
   have gC:Ext (·=g) w (w.freeze ⟨g,0,none⟩ str.length):=by
    have:=Lib.below_freeze (Below.refl 0 w) (p:=⟨g,0,none⟩) (Nat.zero_le g) str.length
    exact ⟨this.os,this.tape,this.output,this.size,fun k hk hn=>by
     unfold World.freeze;split
     ·rfl
     ·simp only [Array.getElem?_modify]
      rw [if_neg (fun he=>hn he.symm)]⟩
   have ej:(β i).blk=some g:=by rw [e1];rfl
   have bc:Inv B K β (oset Γ i .lost) (w.freeze ⟨g,0,none⟩ str.length):=by
    refine ⟨hI.ext.step gC (fun j hj=>by subst hj;exact (hI.own i _ ej).symm),hI.kle,hI.ble,hI.loc,hI.fz.ext gC (fun b o g' lj he=>by subst he;rw [o5 _ rfl o] at lj;cases lj),fun j y hj=>?_,fun j hj=>hI.out j (by simpa [aV] using hj),hI.dis,hI.own,hI.kn,hI.tab.step gC (fun j hj=>⟨i,by subst hj;exact ej⟩) (cw.refl K) (fun i b2 h=>.inl ⟨i,h⟩)⟩;rw [aV,List.getElem?_set] at hj;split at hj
    ·rename_i gx;split at hj
     ·cases hj;subst gx
      intro b aY;rw [ej] at aY;cases aY;have:=rp hg;exact Nat.lt_of_lt_of_le this gC.size
     ·cases hj
    ·rename_i gx;exact (hI.ob j y hj).ext gC (fun b hb he=>by subst he;exact gx (hI.dis i j _ ej hb)) (cw.refl K) (de.refl β) rfl (fun _ _ _ h=>h)
   exact WL.val (v:=sv str) (w':=w.freeze ⟨g,0,none⟩ str.length) (by simp [execOp,resolve,invoke,builtin,hv,Tk,mz,sv]) (h B K β _ _ hm bc (hF.put d (.v _)))
theorem Inv.Pr {B:Bs} {K:Fz} {β:Bt} {Γ:List Ob} {w:World} {x:Bk} {y:Ob} (h:Inv B K β Γ w) (hd:∀ b,x.blk=some b->(∀ i,(β i).blk≠some b)/\B.w0.heap.size<=b/\(b≠1/\b≠2))
  (ho:jT K (eT β Γ.length x) w Γ.length y) (hold:de β (eT β Γ.length x)):Inv B K (eT β Γ.length x) (Γ++[y]) w:=by
 refine ⟨h.ext,h.kle,h.ble.trans hold,h.loc,h.fz,fun i z hi=>?_,fun i hi=>?_,fun i j b hi hj=>?_,fun i b hi=>?_,h.kn,⟨h.tab.le,h.tab.pow,h.tab.spc,fun i b hi=>?_⟩⟩
 ·by_cases u7:i < Γ.length
  ·rw [List.getElem?_append_left u7] at hi;exact (h.ob i z hi).ext (S:=iG) (Ext.refl w) (fun _ _ h=>h) (cw.refl K) hold (bQ (by omega)) (fun _ _ _ h=>h)
  ·have:i=Γ.length:=by have:=(List.getElem?_eq_some_iff.1 hi).1;simp at this;omega
   subst this;simp at hi;subst hi;exact ho
 ·simp at hi;rw [bQ (by omega)];exact h.out i (by omega)
 ·by_cases h1:i=Γ.length <;> by_cases h2:j=Γ.length
  ·omega
  ·subst h1;rw [bh] at hi;rw [bQ h2] at hj;exact absurd hj ((hd b hi).1 j)
  ·subst h2;rw [bh] at hj;rw [bQ h1] at hi;exact absurd hi ((hd b hj).1 i)
  ·rw [bQ h1] at hi;rw [bQ h2] at hj;exact h.dis i j b hi hj
 ·rcases oY hi with h1 | h1
  ·exact .inr (hd b h1).2.1
  ·exact h.own i b h1
 ·rcases oY hi with h1 | h1
  ·exact (hd b h1).2.2
  ·exact h.tab.free i b h1
theorem YG.Vx {x lo:Operand} {t e:TypeId} {k:Nat} [hT:mF P t e k] {rows:List (List GV)} {kk:IntKind} {i:Nat} (hx:aM fr x=.sl k rows) (ig:aM fr lo=.v (.int kk i)) (hi:Nat.blt i rows.length=true):YG P (.slice t x (some lo) none none) fr Γ (.sl k (rows.drop i)):=fun B K β w l hI hF=>by
 have hi:i < rows.length:=by simpa using hi
 have h:=hF.ev x;rw [hx] at h;have HA:=hF.gU ig;generalize hv:ev l x=v at h
 cases h with
 | sl0 a c=>simp at hi
 | sl b o c _ _ h hc =>
  refine ⟨.slice (some ⟨b,o+i * k,none⟩) (rows.length - i) (c - i),fun d ty pos af=>?_,?_⟩
  ·have nR:¬ (c=i):=by omega
   have hle:(i:Int)<=(rows.length:Int):=by omega
   simp [execOp,Instr.sliceAt,Instr.slice,Instr.sliceBounds,Instr.sliceBound,asIntOf,hv,HA,run_underlying hT.und,iH hT.siz,nR,Nat.le_of_lt hi,pb]
  ·have:=Rel.sl (K:=K) (β:=β) b (o+i * k) (c - i) k (rows.drop i) (fun j r hr=>?_) (by simp;omega)
   ·rw [List.length_drop] at this;exact this
   ·rw [List.getElem?_drop] at hr;refine ⟨(h (i+j) r hr).1,fun q g hg=>?_⟩;have:=(h (i+j) r hr).2 q g hg;rw [Nat.add_mul] at this;rw [show o+i * k+j * k+q=o+(i * k+j * k)+q by omega];exact this
theorem YG.nu {x lo:Operand} {t e:TypeId} {k:Nat} [hT:mF P t e k] {rows:List (List GV)} {kk:IntKind} {n:Int} (i:Nat) (hx:aM fr x=.sl k rows) (ig:aM fr lo=.v (.int kk n)) (hn:n=(i:Int)) (hi:Nat.blt i rows.length=true):YG P (.slice t x (some lo) none none) fr Γ (.sl k (rows.drop i)):=by
 subst hn;exact YG.Vx hx ig hi
end
end Go.Xg
namespace Go.Proofs
open Go.Shelf
def Tryz.zi:Go.Shelf.Ren:=⟨fun | 165=>162 | 240=>202 | 241=>203 | 276=>225 | 277=>226 | n=>n,fun | 70=>178 | 3=>3 | 0=>0 | 4=>4 | 9=>9 | 20=>20 | 72=>180 | 37=>100 | 164=>220 | 5=>5 | n=>n,fun | n=>n⟩
theorem Tryz.Q3:Go.Proofs.Lays.n165 Tryz.prog Tryz.zi:={
 mixed:=by kernel_rfl
 f165:=Tryz.func162.trans (congrArg some (by kernel_rfl))
 f240:=Tryz.func202.trans (congrArg some (by kernel_rfl))
 f241:=Tryz.func203.trans (congrArg some (by kernel_rfl))
 f276:=Tryz.func225.trans (congrArg some (by kernel_rfl))
 f277:=Tryz.func226.trans (congrArg some (by kernel_rfl))
 t0:=Tryz.underlying0
 a0:=Tryz.isAgg0
 z0:=Tryz.sizeOf0
 v0:=Tryz.zeroValue0
 t3:=Tryz.underlying3
 a3:=Tryz.isAgg3
 z3:=Tryz.sizeOf3
 v3:=Tryz.zeroValue3
 t4:=Tryz.underlying4
 a4:=Tryz.isAgg4
 z4:=Tryz.sizeOf4
 v4:=Tryz.zeroValue4
 t9:=Tryz.underlying9
 a9:=Tryz.isAgg9
 z9:=Tryz.sizeOf9
 v9:=Tryz.zeroValue9
 t20:=Tryz.underlying20
 a20:=Tryz.isAgg20
 z20:=Tryz.sizeOf20
 v20:=Tryz.zeroValue20
 t37:=Tryz.underlying100
 a37:=Tryz.isAgg100
 z37:=Tryz.sizeOf100
 v37:=Tryz.zeroValue100
 t70:=Tryz.underlying178
 a70:=Tryz.isAgg178
 z70:=Tryz.sizeOf178
 v70:=Tryz.zeroValue178
 t72:=Tryz.underlying180
 a72:=Tryz.isAgg180
 z72:=Tryz.sizeOf180
 v72:=Tryz.zeroValue180
 t164:=Tryz.underlying220
 a164:=Tryz.isAgg220
 z164:=Tryz.sizeOf220
 v164:=Tryz.zeroValue220 }
theorem Tryz.yL:Builder.Extra Tryz.prog Tryz.zi:={
 sizeBuilder:=by kernel_rfl
 liesBuilder:=by kernel_rfl
 t5:=Tryz.underlying5
 a5:=Tryz.isAgg5
 z5:=Tryz.sizeOf5
 v5:=Tryz.zeroValue5
 infoByte:=by kernel_rfl
 cellsByte:=by kernel_rfl
 sizeByte:=by kernel_rfl
 neB5:=by decide }
open Go.RowKit in
theorem Tryz.Builder_Grow_fresh (B b n:Nat) (w:World) (hB:B<=b) (ej:w.heap[b]?=some (.cells #[.pointer none,.slice none 0 0] 180 (0,0))) (Yh:B<=w.heap.size) (hn:n<=281474976710656) :
  Calls Tryz.prog 162 #[.pointer (some ⟨b,0,none⟩),.int .i64 n] w fun e w'=>e=.returned (.tuple #[])/\(Lib.BuilderAt 180 5 B b (.pointer (some ⟨b,0,none⟩)) [] w'/\Below B w w'):=Any.Builder_Grow_fresh Tryz.Q3 Tryz.yL B b n w hB ej Yh hn
def Tryz.Gy:Go.Shelf.Ren:=⟨fun | 137=>141 | 217=>169 | 266=>205 | n=>n,fun | 9=>9 | 5=>5 | 3=>3 | n=>n,fun | n=>n⟩
theorem Tryz.Q1:Go.Proofs.Lays.n137 Tryz.prog Tryz.Gy:={
 mixed:=by kernel_rfl
 f137:=Tryz.func141.trans (congrArg some (by kernel_rfl))
 f217:=Tryz.func169.trans (congrArg some (by kernel_rfl))
 f266:=Tryz.func205.trans (congrArg some (by kernel_rfl))
 t3:=Tryz.underlying3
 a3:=Tryz.isAgg3
 z3:=Tryz.sizeOf3
 v3:=Tryz.zeroValue3
 t5:=Tryz.underlying5
 a5:=Tryz.isAgg5
 z5:=Tryz.sizeOf5
 v5:=Tryz.zeroValue5
 t9:=Tryz.underlying9
 a9:=Tryz.isAgg9
 z9:=Tryz.sizeOf9
 v9:=Tryz.zeroValue9 }
open Go.RowKit in
theorem Tryz.strings_IndexByte (s:ByteArray) (c:Int) (w:World) :
  Calls Tryz.prog 141 #[.string s,.int .u8 c] w fun e w'=>e=.returned (.int .i64 (Lib.indexByte s.data.toList c.toNat.toUInt8))/\w'=w:=Any.strings_IndexByte Tryz.Q1 s c w
def Tryz.Tu:Go.Shelf.Ren:=⟨fun | 246=>201 | 283=>221 | 284=>222 | 285=>223 | 286=>224 | 129=>236 | 317=>235 | 318=>237 | 319=>238 | 320=>239 | 337=>245 | 338=>246 | n=>n,fun | 2=>2 | 3=>3 | 9=>9 | 4=>4 | 171=>214 | 0=>0 | 53=>215 | 37=>100 | 5=>5 | 173=>218 | 212=>228 | 51=>223 | 20=>20 | 213=>229 | 46=>209 | 232=>243 | 233=>244 | n=>n,fun | 17=>1 | 18=>4 | 19=>5 | n=>n⟩
def Tryz.Tt:Go.Shelf.Ren:=⟨fun | 243=>161 | 246=>201 | 283=>221 | 284=>222 | 285=>223 | 286=>224 | 129=>236 | 317=>235 | 318=>237 | 319=>238 | 320=>239 | 337=>245 | 338=>246 | n=>n,fun | 3=>3 | 9=>9 | 2=>2 | 4=>4 | 171=>214 | 0=>0 | 53=>215 | 37=>100 | 5=>5 | 173=>218 | 212=>228 | 51=>223 | 20=>20 | 213=>229 | 46=>209 | 232=>243 | 233=>244 | n=>n,fun | 17=>1 | 18=>4 | 19=>5 | n=>n⟩
def Tryz.EW:Go.Shelf.Ren:=⟨fun | 171=>134 | 243=>161 | 246=>201 | 283=>221 | 284=>222 | 285=>223 | 286=>224 | 129=>236 | 317=>235 | 318=>237 | 319=>238 | 320=>239 | 337=>245 | 338=>246 | n=>n,fun | 3=>3 | 9=>9 | 2=>2 | 4=>4 | 171=>214 | 0=>0 | 53=>215 | 37=>100 | 5=>5 | 173=>218 | 212=>228 | 51=>223 | 20=>20 | 213=>229 | 46=>209 | 232=>243 | 233=>244 | n=>n,fun | 17=>1 | 18=>4 | 19=>5 | n=>n⟩
theorem Tryz.Oi:Go.Proofs.LaysM.n171 Tryz.prog Tryz.EW:={
 mixed:=by kernel_rfl
 f129:=Tryz.func236.trans (congrArg some (by kernel_rfl))
 f171:=Tryz.func134.trans (congrArg some (by kernel_rfl))
 f243:=Tryz.func161.trans (congrArg some (by kernel_rfl))
 f246:=Tryz.func201.trans (congrArg some (by kernel_rfl))
 f283:=Tryz.func221.trans (congrArg some (by kernel_rfl))
 f284:=Tryz.func222.trans (congrArg some (by kernel_rfl))
 f285:=Tryz.func223.trans (congrArg some (by kernel_rfl))
 f286:=Tryz.func224.trans (congrArg some (by kernel_rfl))
 f317:=Tryz.func235.trans (congrArg some (by kernel_rfl))
 f318:=Tryz.func237.trans (congrArg some (by kernel_rfl))
 f319:=Tryz.func238.trans (congrArg some (by kernel_rfl))
 f320:=Tryz.func239.trans (congrArg some (by kernel_rfl))
 f337:=Tryz.func245.trans (congrArg some (by kernel_rfl))
 f338:=Tryz.func246.trans (congrArg some (by kernel_rfl))
 t0:=Tryz.underlying0
 a0:=Tryz.isAgg0
 z0:=Tryz.sizeOf0
 v0:=Tryz.zeroValue0
 t2:=Tryz.underlying2
 a2:=Tryz.isAgg2
 z2:=Tryz.sizeOf2
 v2:=Tryz.zeroValue2
 t3:=Tryz.underlying3
 a3:=Tryz.isAgg3
 z3:=Tryz.sizeOf3
 v3:=Tryz.zeroValue3
 t4:=Tryz.underlying4
 a4:=Tryz.isAgg4
 z4:=Tryz.sizeOf4
 v4:=Tryz.zeroValue4
 t5:=Tryz.underlying5
 a5:=Tryz.isAgg5
 z5:=Tryz.sizeOf5
 v5:=Tryz.zeroValue5
 t9:=Tryz.underlying9
 a9:=Tryz.isAgg9
 z9:=Tryz.sizeOf9
 v9:=Tryz.zeroValue9
 t20:=Tryz.underlying20
 a20:=Tryz.isAgg20
 z20:=Tryz.sizeOf20
 v20:=Tryz.zeroValue20
 t37:=Tryz.underlying100
 a37:=Tryz.isAgg100
 z37:=Tryz.sizeOf100
 v37:=Tryz.zeroValue100
 t46:=Tryz.underlying209
 a46:=Tryz.isAgg209
 z46:=Tryz.sizeOf209
 v46:=Tryz.zeroValue209
 t51:=Tryz.underlying223
 a51:=Tryz.isAgg223
 z51:=Tryz.sizeOf223
 v51:=Tryz.zeroValue223
 t53:=Tryz.underlying215
 a53:=Tryz.isAgg215
 z53:=Tryz.sizeOf215
 v53:=Tryz.zeroValue215
 t171:=Tryz.underlying214
 a171:=Tryz.isAgg214
 z171:=Tryz.sizeOf214
 v171:=Tryz.zeroValue214
 t173:=Tryz.underlying218
 a173:=Tryz.isAgg218
 z173:=Tryz.sizeOf218
 v173:=Tryz.zeroValue218
 t212:=Tryz.underlying228
 a212:=Tryz.isAgg228
 z212:=Tryz.sizeOf228
 v212:=Tryz.zeroValue228
 t213:=Tryz.underlying229
 a213:=Tryz.isAgg229
 z213:=Tryz.sizeOf229
 t232:=Tryz.underlying243
 a232:=Tryz.isAgg243
 z232:=Tryz.sizeOf243
 v232:=Tryz.zeroValue243
 t233:=Tryz.underlying244
 a233:=Tryz.isAgg244
 z233:=Tryz.sizeOf244
 v233:=Tryz.zeroValue244
 g17:=by kernel_rfl
 g18:=by kernel_rfl
 g19:=by kernel_rfl
 i0:=by kernel_rfl
 i2:=by kernel_rfl
 i3:=by kernel_rfl
 i4:=by kernel_rfl
 i5:=by kernel_rfl
 i9:=by kernel_rfl
 i20:=by kernel_rfl
 i37:=by kernel_rfl
 i46:=by kernel_rfl
 i51:=by kernel_rfl
 i53:=by kernel_rfl
 i171:=by kernel_rfl
 i173:=by kernel_rfl
 i212:=by kernel_rfl
 i232:=by kernel_rfl
 i233:=by kernel_rfl
 m17:=by kernel_rfl
 m18:=by kernel_rfl
 m19:=by kernel_rfl }
open Go.RowKit Go.Sort Go.Lib in
theorem Tryz.strconv_Itoa (n:Int) (h0 : -9223372036854775808<=n) (h1:n<=9223372036854775807) (w:World) (zR:Lib.TabIs Tryz.prog w "internal/strconv.uint64pow10" .u64 Lib.pow10Tab) :
  Calls Tryz.prog 134 #[.int .i64 n] w fun e w'=>e=.returned (.string ⟨(Lib.itoa n).toArray⟩)/\∃ k os,w'=grow (w.drewN k) os:=Any.strconv_Itoa Tryz.Oi n h0 h1 w zR
def Tryz.Up:Go.Shelf.Ren:=⟨fun | 219=>171 | 217=>169 | 225=>206 | 224=>207 | 267=>208 | 266=>205 | 314=>227 | n=>n,fun | 9=>9 | 3=>3 | 4=>4 | 5=>5 | 46=>209 | 146=>224 | 51=>223 | n=>n,fun | 1=>0 | n=>n⟩
def Tryz.Gz:Go.Shelf.Ren:=⟨fun | 143=>143 | 219=>171 | 217=>169 | 225=>206 | 224=>207 | 267=>208 | 266=>205 | 314=>227 | n=>n,fun | 9=>9 | 3=>3 | 4=>4 | 5=>5 | 46=>209 | 146=>224 | 51=>223 | n=>n,fun | 1=>0 | n=>n⟩
theorem Tryz.Q2:Go.Proofs.Lays.n143 Tryz.prog Tryz.Gz:={
 mixed:=by kernel_rfl
 f143:=Tryz.func143.trans (congrArg some (by kernel_rfl))
 f217:=Tryz.func169.trans (congrArg some (by kernel_rfl))
 f219:=Tryz.func171.trans (congrArg some (by kernel_rfl))
 f224:=Tryz.func207.trans (congrArg some (by kernel_rfl))
 f225:=Tryz.func206.trans (congrArg some (by kernel_rfl))
 f266:=Tryz.func205.trans (congrArg some (by kernel_rfl))
 f267:=Tryz.func208.trans (congrArg some (by kernel_rfl))
 f314:=Tryz.func227.trans (congrArg some (by kernel_rfl))
 t3:=Tryz.underlying3
 a3:=Tryz.isAgg3
 z3:=Tryz.sizeOf3
 v3:=Tryz.zeroValue3
 t4:=Tryz.underlying4
 a4:=Tryz.isAgg4
 z4:=Tryz.sizeOf4
 v4:=Tryz.zeroValue4
 t5:=Tryz.underlying5
 a5:=Tryz.isAgg5
 z5:=Tryz.sizeOf5
 v5:=Tryz.zeroValue5
 t9:=Tryz.underlying9
 a9:=Tryz.isAgg9
 z9:=Tryz.sizeOf9
 v9:=Tryz.zeroValue9
 t46:=Tryz.underlying209
 a46:=Tryz.isAgg209
 z46:=Tryz.sizeOf209
 v46:=Tryz.zeroValue209
 t51:=Tryz.underlying223
 a51:=Tryz.isAgg223
 z51:=Tryz.sizeOf223
 v51:=Tryz.zeroValue223
 t146:=Tryz.underlying224
 a146:=Tryz.isAgg224
 z146:=Tryz.sizeOf224
 v146:=Tryz.zeroValue224
 g1:=by kernel_rfl }
open Go.RowKit Go.Lib in
theorem Tryz.strings_Index (s sub:ByteArray) (m:Int) (w:World) (hs:s.size < 4294967281) (hm:w.cell? ⟨0,0,none⟩=some (.int .i64 m)) :
  Calls Tryz.prog 143 #[.string s,.string sub] w fun e w'=>e=.returned (.int .i64 (Lib.index s.data.toList sub.data.toList))/\w'=w:=Any.strings_Index Tryz.Q2 s sub m w hs hm
def Tryz.Uo:Go.Shelf.Ren:=⟨fun | 157=>228 | 229=>240 | 199=>241 | 261=>247 | 311=>250 | 312=>251 | n=>n,fun | 9=>9 | 31=>22 | 3=>3 | 5=>5 | 4=>4 | 119=>231 | 0=>0 | 40=>233 | 152=>237 | 21=>21 | 154=>239 | 51=>223 | 141=>241 | 196=>248 | 193=>245 | 198=>251 | 49=>249 | 194=>246 | 201=>254 | 226=>257 | 46=>209 | 227=>258 | n=>n,fun | 0=>2 | 6=>3 | n=>n⟩
def Tryz.EV:Go.Shelf.Ren:=⟨fun | 157=>228 | 229=>240 | 199=>241 | 261=>247 | 311=>250 | 312=>251 | n=>n,fun | 9=>9 | 31=>22 | 3=>3 | 5=>5 | 4=>4 | 119=>231 | 0=>0 | 40=>233 | 152=>237 | 21=>21 | 154=>239 | 51=>223 | 141=>241 | 196=>248 | 193=>245 | 198=>251 | 49=>249 | 194=>246 | 201=>254 | 226=>257 | 46=>209 | 227=>258 | n=>n,fun | 0=>2 | 6=>3 | n=>n⟩
theorem Tryz.Oh:Go.Proofs.LaysM.n157 Tryz.prog Tryz.EV:={
 mixed:=by kernel_rfl
 f157:=Tryz.func228.trans (congrArg some (by kernel_rfl))
 f199:=Tryz.func241.trans (congrArg some (by kernel_rfl))
 f229:=Tryz.func240.trans (congrArg some (by kernel_rfl))
 f261:=Tryz.func247.trans (congrArg some (by kernel_rfl))
 f311:=Tryz.func250.trans (congrArg some (by kernel_rfl))
 f312:=Tryz.func251.trans (congrArg some (by kernel_rfl))
 t0:=Tryz.underlying0
 a0:=Tryz.isAgg0
 z0:=Tryz.sizeOf0
 v0:=Tryz.zeroValue0
 t3:=Tryz.underlying3
 a3:=Tryz.isAgg3
 z3:=Tryz.sizeOf3
 v3:=Tryz.zeroValue3
 t4:=Tryz.underlying4
 a4:=Tryz.isAgg4
 z4:=Tryz.sizeOf4
 v4:=Tryz.zeroValue4
 t5:=Tryz.underlying5
 a5:=Tryz.isAgg5
 z5:=Tryz.sizeOf5
 v5:=Tryz.zeroValue5
 t9:=Tryz.underlying9
 a9:=Tryz.isAgg9
 z9:=Tryz.sizeOf9
 v9:=Tryz.zeroValue9
 t21:=Tryz.underlying21
 a21:=Tryz.isAgg21
 z21:=Tryz.sizeOf21
 v21:=Tryz.zeroValue21
 t31:=Tryz.underlying22
 a31:=Tryz.isAgg22
 z31:=Tryz.sizeOf22
 v31:=Tryz.zeroValue22
 t40:=Tryz.underlying233
 a40:=Tryz.isAgg233
 z40:=Tryz.sizeOf233
 v40:=Tryz.zeroValue233
 t46:=Tryz.underlying209
 a46:=Tryz.isAgg209
 z46:=Tryz.sizeOf209
 v46:=Tryz.zeroValue209
 t49:=Tryz.underlying249
 a49:=Tryz.isAgg249
 z49:=Tryz.sizeOf249
 v49:=Tryz.zeroValue249
 t51:=Tryz.underlying223
 a51:=Tryz.isAgg223
 z51:=Tryz.sizeOf223
 v51:=Tryz.zeroValue223
 t119:=Tryz.underlying231
 a119:=Tryz.isAgg231
 z119:=Tryz.sizeOf231
 t141:=Tryz.underlying241
 a141:=Tryz.isAgg241
 z141:=Tryz.sizeOf241
 v141:=Tryz.zeroValue241
 t152:=Tryz.underlying237
 a152:=Tryz.isAgg237
 z152:=Tryz.sizeOf237
 v152:=Tryz.zeroValue237
 t154:=Tryz.underlying239
 a154:=Tryz.isAgg239
 z154:=Tryz.sizeOf239
 v154:=Tryz.zeroValue239
 t193:=Tryz.underlying245
 a193:=Tryz.isAgg245
 z193:=Tryz.sizeOf245
 v193:=Tryz.zeroValue245
 t194:=Tryz.underlying246
 a194:=Tryz.isAgg246
 z194:=Tryz.sizeOf246
 v194:=Tryz.zeroValue246
 t196:=Tryz.underlying248
 a196:=Tryz.isAgg248
 z196:=Tryz.sizeOf248
 v196:=Tryz.zeroValue248
 t198:=Tryz.underlying251
 a198:=Tryz.isAgg251
 z198:=Tryz.sizeOf251
 v198:=Tryz.zeroValue251
 t201:=Tryz.underlying254
 a201:=Tryz.isAgg254
 z201:=Tryz.sizeOf254
 v201:=Tryz.zeroValue254
 t226:=Tryz.underlying257
 a226:=Tryz.isAgg257
 z226:=Tryz.sizeOf257
 v226:=Tryz.zeroValue257
 t227:=Tryz.underlying258
 a227:=Tryz.isAgg258
 z227:=Tryz.sizeOf258
 v227:=Tryz.zeroValue258
 g0:=by kernel_rfl
 g6:=by kernel_rfl
 i0:=by kernel_rfl
 i3:=by kernel_rfl
 i4:=by kernel_rfl
 i5:=by kernel_rfl
 i9:=by kernel_rfl
 i21:=by kernel_rfl
 i31:=by kernel_rfl
 i40:=by kernel_rfl
 i46:=by kernel_rfl
 i49:=by kernel_rfl
 i51:=by kernel_rfl
 i141:=by kernel_rfl
 i152:=by kernel_rfl
 i154:=by kernel_rfl
 i193:=by kernel_rfl
 i194:=by kernel_rfl
 i196:=by kernel_rfl
 i198:=by kernel_rfl
 i201:=by kernel_rfl
 i226:=by kernel_rfl
 i227:=by kernel_rfl
 m0:=by kernel_rfl
 m6:=by kernel_rfl }
open Go.RowKit Go.Lib in
theorem Tryz.strings_Fields_laid (s:ByteArray) (w:World) (hs:s.size < 4294967281) (SE:∀ (j:Nat) b,s.data.toList[j]?=some b->b.toNat < 128) (zR:Lib.TabIs Tryz.prog w "strings.asciiSpace" .u8 Lib.asciiSpaceTab) :
  Calls Tryz.prog 228 #[.string s] w fun e w' =>
   e=.returned (.slice (some ⟨w.heap.size,0,none⟩) (Lib.fields s.data.toList).length (Lib.fields s.data.toList).length)/\w'=w.alloc (.cells ((Lib.fields s.data.toList).map fun l=>Value.string ⟨l.toArray⟩).toArray 9):=Any.strings_Fields_laid Tryz.Oh s w hs SE zR
end Go.Proofs
set_option maxHeartbeats 1000000
namespace Go.Xg
open Go.RowKit Go.Xw Go.Proofs
attribute [local irreducible] GW GL GO YG GC GA aQ aR
instance:Cz Tryz.prog 100 5:=Cz.mk' (by kernel_rfl)
instance:Bw Tryz.prog 178:=Bw.mk' (e:=180) (by kernel_rfl) (by kernel_rfl)
theorem Gm (g:Value):GF Tryz.prog 202 [.loc 0 0] [.box 180 [.loc 0 0,.v g]] (.tup []) [.box 180 [.loc 0 0,.v g]]:=by
 refine ah Tryz.func202 Tryz.ntmps202 ?_;exact fm
theorem rD (s:ae) (n:Nat) (a:Option Addr) (c:Nat) (rows:List (List GV)) (hn:rows.length=n) (hb:n+s.length<=140737488355328) :
  GC Tryz.prog 163 [.loc 0 0,.v (sv s)] [.box 180 [.loc 0 0,.v (.slice a n c)],.vech 5 1 rows (.slice a n c)] (fun g aD=>(∃ x,g=.tup [.v (ii s.length),x])/\∃ a c,aD=[.box 180 [.loc 0 0,.v (.slice a (n+s.length) c)],.vech 5 1 (rows++bY s) (.slice a (n+s.length) c)]):=by
 subst hn;have h:=Gm (.slice a rows.length c)
 cases s with
 | nil =>
  refine ah Tryz.func163 Tryz.ntmps163 ?_;refine U [0] (h) ?_;refine GL.Ut 1 rfl rfl rfl (by simpa using hb) ?_;refine cS ?_;refine ab ?_;refine yH ?_;exact ⟨⟨_,rfl⟩,a,c,by simp [bY]⟩
 | cons x r =>
  generalize hs:x::r=s at *
  have bN:s.isEmpty=false:=by rw [<-hs];rfl
  clear hs;refine ah Tryz.func163 Tryz.ntmps163 ?_;refine U [0] (h) ?_;refine GL.Uu 1 rfl rfl rfl (by first | rfl | assumption) (by assumption) (by omega) ?_;intro a2 c2;refine cS ?_;refine ab ?_;refine yH ?_;exact ⟨⟨_,rfl⟩,a2,c2,rfl⟩
theorem Nl (str:ae) (a:Option Addr) (c:Nat) (h0:str≠[]) (hb:str.length<=140737488355328) :
  GF Tryz.prog 164 [.loc 0 0] [.box 180 [.loc 0 0,.v (.slice a str.length c)],.vech 5 1 (bY str) (.slice a str.length c)] (.v (sv str)) [.box 180 [.loc 0 0,.v (.slice a str.length c)],.lost]:=by
 have hlen:(bY str).length=str.length:=by simp [bY]
 have hp:Nat.blt 0 str.length=true:=by simpa using List.length_pos_iff.2 h0
 have bN:str.isEmpty=false:=by cases str with | nil=>exact absurd rfl h0 | cons _ _=>rfl
 refine ah Tryz.func164 Tryz.ntmps164 ?_;refine GW.draw (.q 0 (.q 1 (.q 2 (.q 3 (.q 4 (.q 5 (.q 6 (.q 7 (.q 8 (.q 9 (.a 10 (.q 11 .nil)))))))))))) (by kernel_rfl) (by kernel_rfl) ?_;refine ai ?_;refine J4 ?_;refine ai ?_;exact ar
end Go.Xg
namespace Go.Xg
open Go.RowKit Go.Xw Go.Proofs
open Go.Xp (bx)
theorem oa.Da {P:Program} {f:FuncId} {vs:List Value} {w:World} {R:Value->World->Prop} (h:Calls P f vs.toArray w fun e w'=>∃ v,e=.returned v/\R v w'):oa P f vs w R:=h
theorem GW.builder {Q:dR} {fr:List GV} {r1 r2:Nat} {rest:Code} {t8 t56 t57 t5:Tmp} {T1 T2 T3 T4 T5:TypeId} {p1 p2 p3:String} {a1 a2 a3:Array Edge} (n:Nat)
  (h8:ju fr t8=true) (VI:ju fr t56=true) (bN:Nat.beq t8 t56=false) (W9:Nat.beq t5 t8=false) (hn:cq fr t5=.v (ii (n:Nat))) (hb:n<=281474976710656)
  (h:∀ a c,GW Tryz.prog 0 rest Q (bg (bg (bg fr t8 (.loc 0 0)) t56 (.v (ii (n:Nat)))) t57 (.v (.tuple #[]))) [.box 180 [.loc 0 0,.v (.slice a 0 c)],.vech 5 1 [] (.slice a 0 c)]) :
  GW Tryz.prog 0 (.seq (.region r1 [(⟨some t8,.alloc 180,T1,p1,a1,none⟩:Oper)].toArray false) (.seq (.region r2 [(⟨some t56,.move (.tmp t5),T2,p2,a2,none⟩:Oper),⟨some t57,.call ⟨.value (.func 162),[Operand.tmp t8,.tmp t56].toArray,#[T3,T4]⟩,T5,p3,a3,none⟩].toArray false) rest)) Q fr []:=fun B K β w l hm hI hF=>by
 have EB:t8≠t56:=by intro e;subst e;simp at bN
 have PO:t5≠t8:=by intro e;subst e;simp at W9
 have i8:=mc hF h8;have i56:=mc hF VI;refine W.seq (W.region (WL.alloc (t:=180) fun b w1 rK=>WL.nil ?_));refine W.seq (W.region (WL.v R.mv (WL.call (f:=162) (BB:=[.pointer (some ⟨b,0,none⟩),.int .i64 n]) ?_ (R:=fun x w2=>x=.tuple #[]/\(Lib.BuilderAt 180 5 b b (.pointer (some ⟨b,0,none⟩)) [] w2/\Below b w1 w2)) ?_ fun x w2 hx=>WL.nil ?_)))
 ·have Yi:FR K (eT β 0 (.fix b)) (bg fr t8 (.loc 0 0)) (put l (some t8) (.pointer (some ⟨b,0,none⟩))) :=
   (hF.mono (cw.refl K) (gJ (i:=0) (x:=.fix b) (by rw [hI.out 0 (Nat.le_refl _)];trivial))).eM t8 (.loc 0 0 b bh)
  have Za:ju (eM l t8 (.pointer (some ⟨b,0,none⟩))) t56=true:=mc Yi (t:=t56) (by rw [HN];exact VI)
  have e5:nth (eM l t8 (.pointer (some ⟨b,0,none⟩))) t5=.int .i64 n:=by
   rw [nM PO];exact Rel.eg (by rw [<-hn];exact hF.nth t5)
  show [nth (eM (eM l t8 (.pointer (some ⟨b,0,none⟩))) t56 (nth (eM l t8 (.pointer (some ⟨b,0,none⟩))) t5)) t8,nth (eM (eM l t8 (.pointer (some ⟨b,0,none⟩))) t56 (nth (eM l t8 (.pointer (some ⟨b,0,none⟩))) t5)) t56]=_;rw [nM EB,r6 i8,r6 Za,e5]
 ·refine oa.Da (Calls.mono (Tryz.Builder_Grow_fresh b b n w1 (Nat.le_refl _) rK.blk (by have:=rK.size;omega) hb) ?_);rintro e w' ⟨h1,h2⟩;exact ⟨_,h1,rfl,h2⟩
 ·obtain ⟨rfl,⟨_,v,kX,gw,u9⟩,En⟩:=hx;have gw:gQ w2 b 5 1 v 0 []:=gw;obtain ⟨a,c,rfl⟩:=gw.shape;have tQ:=rK.fresh;have gC:Ext iG w w2:=⟨En.os.trans rK.ext.os,En.tape.trans rK.ext.tape,En.output.trans rK.ext.output,Nat.le_trans rK.ext.size En.size,fun k hk hs=>(En.block k (by omega)).trans (rK.ext.block k hk hs)⟩;have oO:=hI.same gC
  have bV:∀ i,β i=.no:=fun i=>hI.out i (Nat.zero_le _)
  have SB:∀ o,K b o=none:=fun o=>by
   cases hk:K b o with
   | none=>rfl
   | some g=>have:=hI.fz.lt hk;omega
  have V7:=hI.ext.size;have ZR:=hI.tab.pow.lt;have my:=hI.tab.spc.lt;have SX:de β (eT β ([]:List Ob).length (.fix b)):=gJ (by rw [bV];trivial)
  have Ln:=oO.Pr (x:=.fix b) (y:=.box 180 [.loc 0 0,.v (.slice a 0 c)]) (fun b' aY=>by
   cases aY
   exact ⟨fun i hi=>(by rw [bV] at hi;cases hi),by omega,by omega,by omega⟩) (by
   refine ⟨b,[.pointer (some ⟨b,0,none⟩),.slice a 0 c],bh,kX,.cons (.loc 0 0 b bh) (.cons (.v _) .nil),SB⟩) SX
  have AV:gQ w2 0 5 1 (.slice a 0 c) 0 []:=gw.base (Nat.zero_le _)
  have VO:∀ g,(Value.slice a 0 c).ownBlock=some g->b < g:=fun g hg=>by
   have h1:=(gw.lt hg).1
   have h2:g≠b:=fun e=>u9 (by rw [hg,e])
   omega
  have yZ:eT β ([]:List Ob).length (.fix b) 1=.no:=by rw [bQ (by decide)];exact bV 1
  have zP:de (eT β ([]:List Ob).length (.fix b)) (eT (eT β ([]:List Ob).length (.fix b)) 1 (.gr (.slice a 0 c) 0)):=gJ (by rw [yZ];trivial)
  have Yk:=Ln.Pr (x:=.gr (.slice a 0 c) 0) (y:=.vech 5 1 [] (.slice a 0 c)) (fun g hg=>by
   have:=VO g hg;refine ⟨fun i hi=>?_,by omega,by omega,by omega⟩
   rcases oY hi with h1 | h1
   ·cases h1;omega
   ·rw [bV] at h1;cases h1) (by
   refine ⟨[],bh,AV,aU.nil,(fun r hr=>by cases hr),fun g hg o=>?_⟩
   cases hk:K g o with
   | none=>rfl
   | some y=>have:=hI.fz.lt hk;have:=VO g hg;omega) zP
  refine h a c B K _ w2 _ hm Yk ?_;have Yj:=(hF.mono (cw.refl K) SX).mono (cw.refl K) zP;refine ((Yj.eM t8 (.loc 0 0 b ?_)).eM t56 ?_).eM t57 (.v _)
  ·rw [bQ (by decide)];exact bh
  ·have e5:nth (eM l t8 (.pointer (some ⟨b,0,none⟩))) t5=.int .i64 n:=by
    rw [nM PO];exact Rel.eg (by rw [<-hn];exact hF.nth t5)
   rw [show ev (put l (some t8) (.pointer (some ⟨b,0,none⟩))) (.tmp t5)=.int .i64 n from e5];exact .v _
end Go.Xg
namespace Go.Xg
open Go.RowKit Go.Xw Go.Proofs
open Go.Xp (bx)
attribute [local irreducible] GW GL GO YG GC GA aQ aR
theorem tJ (a b:ae):bY (a++b)=bY a++bY b:=by simp [bY]
def mD (l:List ae):Nat:=(l.map List.length).sum
theorem C0:∀ (r:List ae) (x:ae),(bx (x::r)).length=mD (x::r)+2 * r.length
 | [],x=>by simp [bx,mD]
 | y::r,x=>by
  have:=C0 r y;simp only [bx,mD,length_append,List.map_cons,sum_cons,List.flatMap_cons,length_cons] at this |-;omega
def gj (l:List ae):ae:=l.flatMap fun y=>44::32::y
theorem Lj (a b:List ae):gj (a++b)=gj a++gj b:=by unfold gj;rw [List.flatMap_append]
theorem QS (l:List ae) (k:Nat):(gj (l.take k)).length<=(gj l).length:=by
 have:gj l=gj (l.take k)++gj (l.drop k):=by rw [<-Lj,List.take_append_drop]
 rw [this,length_append];omega
theorem Sr (y:ae):gj [y]=[44,32]++y:=by simp [gj]
theorem N7 (x:ae) (r:List ae):bx (x::r)=x++gj r:=rfl
theorem Kg (l:List ae) (hb:(bx l).length<=1099511627776) (hl:l.length<=1099511627776):GF Tryz.prog 135 [strs l,.v (sv [44,32])] [] (.v (sv (bx l))) []:=by
 match l,hb,hl with
 | [],hb,hl =>
  refine ah Tryz.func135 Tryz.ntmps135 ?_;exact al
 | [x],hb,hl =>
  have hr:([x].map fun s=>[GV.v (sv s)])[0]?=some [.v (sv x)]:=rfl
  have e:bx [x]=x:=by simp [bx]
  rw [e];refine ah Tryz.func135 Tryz.ntmps135 ?_;exact al
 | x::y::r,hb,hl =>
  have ri:((x::y::r).map fun s=>[GV.v (sv s)])[0]?=some [.v (sv x)]:=rfl;have hlen:=C0 (y::r) x
  have zg:x.length<=1099511627776:=by simp only [bx,length_append] at hb;omega
  generalize hL:(x::y::r)=l at *
  have ko:2<=l.length:=by rw [<-hL];simp
  have dw:(l.map fun s=>[GV.v (sv s)]).length=l.length:=by simp
  have yZ:Nat.blt 1 (l.map fun s=>[GV.v (sv s)]).length=true:=by rw [dw];simpa [Nat.blt] using ko
  have CR:(((l.map fun s=>[GV.v (sv s)]).length:Int)==0)=false:=by rw [dw];simp only [beq_eq_false_iff_ne,ne_eq];omega
  have EA:(((l.map fun s=>[GV.v (sv s)]).length:Int)==1)=false:=by rw [dw];simp only [beq_eq_false_iff_ne,ne_eq];omega
  have hq:decide ((9223372036854775807:Int) / (((l.map fun s=>[GV.v (sv s)]).length:Int) - 1)<=2)=false:=by
   rw [dw]
   have h3:(3:Int)<=9223372036854775807 / ((l.length:Int) - 1):=by
    rw [Int.le_ediv_iff_mul_le (by omega)];omega
   simp;omega
  refine ah Tryz.func135 Tryz.ntmps135 ?_;apply GL.q
  ·exact YG.mul (a:=2) (b:=((l.map fun s=>[GV.v (sv s)]).length:Int) - 1) rfl rfl (by omega)
  refine bZ ?_;refine ab ?_;refine GW.range (l.map fun s=>[GV.v (sv s)]).length (fun k fr Γ=>fr=[strs l,.v (sv [44,32]),.any,.any,.any,.v (ii (0+2 * (((l.map fun s=>[GV.v (sv s)]).length:Int) - 1)+((mD (l.take k):Nat):Int))),.any,.any,.any,.any,.any,.any,.any,.any,.any,.any,.any,.any,.any,.any,.any,.any,.any,.any,.any,.any,.any,.any,.any,.any,.any,.any,.any,.any,.any,.any,.any,.any,.any,strs l,.v (ii ((l.map fun s=>[GV.v (sv s)]).length:Int)),.v (ii (k:Nat)),.any,.any,.any,.any,.any,.any,.any,.any,.any,.any,.any,.any,.any,.any,.any,.any,.any,.any,.any,.any,.any,.any,.any,.any,.any,.any,.any,.any,.any,.any,.any,.any,.any]/\Γ=[]) ?_ (by omega) ?_ ?_ ?_
  ·refine ⟨_,_,Wk.av (bM:=[strs l,.v (sv [44,32]),.any,.any,.any,.v (ii (0+2 * (((l.map fun s=>[GV.v (sv s)]).length:Int) - 1))),.any,.any,.any,.any,.any,.any,.any,.any,.any,.any,.any,.any,.any,.any,.any,.any,.any,.any,.any,.any,.any,.any,.any,.any,.any,.any,.any,.any,.any,.any,.any,.any,.any,strs l,.v (ii ((l.map fun s=>[GV.v (sv s)]).length:Int)),.v (ii (0:Nat)),.any,.any,.any,.any,.any,.any,.any,.any,.any,.any,.any,.any,.any,.any,.any,.any,.any,.any,.any,.any,.any,.any,.any,.any,.any,.any,.any,.any,.any,.any,.any,.any,.any]) aj,?_,rfl⟩;rw [List.take_zero,show ((mD []:Nat):Int)=0 from rfl,Int.add_zero]
  ·rintro k _ _ ⟨rfl,rfl⟩;exact ⟨rfl,rfl,rfl⟩
  ·rintro k _ _ ao ⟨rfl,rfl⟩;rw [dw] at ao
   have cH:l[k]?=some l[k]:=by simp [ao]
   have AP:(l.map fun s=>[GV.v (sv s)])[k]?=some [.v (sv l[k])]:=by rw [getElem?_map,cH];rfl
   have hs:mD (l.take (k+1))=mD (l.take k)+l[k].length:=by unfold mD;rw [take_add_one,cH,map_append,List.sum_append];simp only [Option.toList,List.map_cons,map_nil,sum_cons,List.sum_nil,Nat.add_zero]
   have hle:mD (l.take (k+1))<=mD l:=by
    have:mD l=mD (l.take (k+1))+mD (l.drop (k+1)):=by
     unfold mD;rw [<-List.sum_append,<-map_append,List.take_append_drop]
    omega
   generalize l[k]=z at *;rw [show (0+2 * (((l.map fun s=>[GV.v (sv s)]).length:Int) - 1)+((mD (l.take (k+1)):Nat):Int))=0+2 * (((l.map fun s=>[GV.v (sv s)]).length:Int) - 1)+((mD (l.take k):Nat):Int)+(z.length:Int) by rw [hs];omega]
   have hov:decide (9223372036854775807 - (0+2 * (((l.map fun s=>[GV.v (sv s)]).length:Int) - 1)+((mD (l.take k):Nat):Int)) < (z.length:Int))=false:=by
    simp only [decide_eq_false_iff_not];omega
   refine ab ?_;exact ⟨rfl,rfl,_,_,Wk.av aj,rfl,rfl⟩
  ·rintro _ _ ⟨rfl,rfl⟩;rw [dw,take_length]
   have hN:(0+2 * ((l.length:Int) - 1)+((mD l:Nat):Int))=(((bx l).length:Nat):Int):=by
    have:(y::r).length+1=l.length:=by rw [<-hL];simp
    omega
   rw [hN];refine aJ ?_
   refine GW.builder (bx l).length rfl rfl rfl rfl rfl (by omega) fun a c=>?_
   refine ab ?_;refine b9 [0,1] (rD x 0 a c [] rfl (by omega)) ?_;rintro _ _ ⟨⟨u1,rfl⟩,a1,c1,rfl⟩;refine cU ?_;refine ab ?_
   have key:∀ k,(x++gj ((y::r).take k)).length<=1099511627776:=fun k=>by
    have h1:=QS (y::r) k;rw [<-hL,N7,length_append] at hb;rw [length_append];omega
   refine GW.range ((y::r).map fun s=>[GV.v (sv s)]).length (fun k fr Γ=>∃ acc a c,fr=[.any,.v (sv [44,32]),.any,.any,.any,.any,.any,.any,.loc 0 0,.any,.any,.any,.any,.any,.any,.any,.any,.any,.any,.any,.any,.any,.any,.any,.any,.any,.any,.any,.any,.any,.any,.any,.any,.any,.any,.any,.any,.any,.any,.any,.any,.any,.any,.any,.any,.any,.any,.any,.any,.any,.any,.any,.any,.any,.any,.any,.any,.any,.any,.any,.any,.any,.any,strs (y::r),.v (ii (((y::r).map fun s=>[GV.v (sv s)]).length:Int)),.v (ii (k:Nat)),.any,.any,.any,.any,.any,.any,.any,.any,.any]/\acc=x++gj ((y::r).take k)/\Γ=[.box 180 [.loc 0 0,.v (.slice a acc.length c)],.vech 5 1 (bY acc) (.slice a acc.length c)]) ?_ ?_ ?_ ?_ ?_
   ·rw [show 0+x.length=x.length from Nat.zero_add _];subst hL;exact ⟨_,_,Wk.av aj,x,a1,c1,rfl,by simp [gj],rfl⟩
   ·have:((y::r).map fun s=>[GV.v (sv s)]).length+1=l.length:=by rw [<-hL];simp
    omega
   ·rintro k _ _ ⟨acc,a,c,rfl,_,rfl⟩;exact ⟨rfl,rfl,rfl⟩
   ·rintro k _ _ ao ⟨acc,a,c,rfl,kO,rfl⟩
    have ao:k < (y::r).length:=by simpa using ao
    have cH:(y::r)[k]?=some (y::r)[k]:=by simp [ao]
    have AP:((y::r).map fun s=>[GV.v (sv s)])[k]?=some [.v (sv (y::r)[k])]:=by rw [getElem?_map,cH];rfl
    have bm:x++gj ((y::r).take (k+1))=(acc++[44,32])++(y::r)[k]:=by
     rw [take_add_one,cH,Lj,<-append_assoc,<-kO,append_assoc]
     congr 1
     exact Sr _
    have tR:=key k;have re:=key (k+1);rw [bm] at re;rw [<-kO] at tR;simp only [length_append,length_cons,length_nil] at re;generalize (y::r)[k]=z at *
    have UO:(bY acc).length=acc.length:=by simp [bY]
    refine ab ?_;refine b9 [0,1] (rD [44,32] acc.length a c (bY acc) UO (by simp only [length_cons,length_nil];omega)) ?_;rintro _ _ ⟨⟨u1,rfl⟩,a2,c2,rfl⟩;refine cU ?_;rw [show bY acc++[[GV.v (.int .u8 ((44:UInt8).toNat:Int))],[GV.v (.int .u8 ((32:UInt8).toNat:Int))]]=bY (acc++[44,32]) by simp [bY],show acc.length+([44,32]:ae).length=(acc++[44,32]).length by simp];refine ab ?_;refine b9 [0,1] (rD z (acc++[44,32]).length a2 c2 (bY (acc++[44,32])) (by simp [bY]) (by simp only [length_append,length_cons,length_nil];omega)) ?_;rintro _ _ ⟨⟨u2,rfl⟩,a3,c3,rfl⟩;refine cU ?_
    have ez:List.length (acc++[44,32])+List.length z=List.length ((acc++[44,32])++z):=by simp only [length_append]
    rw [<-tJ,ez];refine ab ?_;exact ⟨rfl,rfl,_,_,Wk.av aj,(acc++[44,32])++z,a3,c3,rfl,bm.symm,rfl⟩
   ·rintro _ _ ⟨acc,a,c,rfl,kO,rfl⟩
    have hj:bx l=acc:=by
     rw [kO,<-hL,show ((y::r).map fun s=>[GV.v (sv s)]).length=(y::r).length by simp,take_length];rfl
    rw [hj] at hb hlen |-
    have bN:acc≠[]:=by
     intro h0;rw [h0] at hlen;simp at hlen
    have Xn:=Nl acc a c bN (by omega);refine ab ?_;refine U [0,1] (Xn) ?_;exact al
end Go.Xg
namespace Go.Xg
open Go.RowKit Go.Xw Go.Proofs
open Go.Xp (Tok Nd T)
open Go.Sp (Src)
open Go.Im (nU pW tr iq cV fQ ux)
attribute [local irreducible] GW GL GO YG GC GA aQ aR
mutual
def tT:T->GV
 | .mk n l=>.box [.v (ii n.kind),.v (ii n.at_),.v (ii n.n),.v (sv n.s),ints n.kids,.sl 1 (bS l)] 0
def bS:List T->List (List GV)
 | []=>[]
 | t::r=>[tT t]::bS r
end
abbrev uT (t:T):GV:=.box [.v (ii t.n.kind),.v (ii t.n.at_),.v (ii t.n.n),.v (sv t.n.s),ints t.n.kids,.sl 1 (bS t.kids)] 0
theorem Vy (t:T):tT t=uT t:=by cases t;rw [tT];rfl
theorem ke (l:List T):bS l=l.map fun t=>[uT t]:=by
 induction l with
 | nil=>rfl
 | cons t l ih=>rw [bS,ih,Vy];rfl
theorem qB (l:List T):(bS l).length=l.length:=by rw [ke];simp
theorem Iq (l:List T) (t:T):bS (l++[t])=bS l++[[uT t]]:=by rw [ke,ke];simp
theorem vw {l:List T} {i:Nat} {t:T} (h:l[i]?=some t):(bS l)[i]?=some [uT t]:=by rw [ke,getElem?_map,h];rfl
def Zz:Option (T × Nat)->GV
 | none=>.tup [.any,.any,.v (.bool false)]
 | some (t,e)=>.tup [uT t,.v (ii (e:Nat)),.v (.bool true)]
theorem O4 (nodes:List Nd) (hl:nodes.length<=1099511627776) (hk:∀ n∈nodes,n.kids.length<=1099511627776):∀ (f a:Nat),nodes.length - a+1<=f->a<=1099511627776 ->
  GF Tryz.prog 132 [.sl 5 (nodes.map au),.v (ii (a:Nat))] [] (Zz (nU nodes f a)) []:=by
 intro f
 induction f with
 | zero=>intro a h;omega
 | succ f ih =>
 intro a hf ha;rw [nU]
 cases hn:nodes[a]? with
 | none =>
  have lk:nodes.length<=a:=List.getElem?_eq_none_iff.1 hn
  have hd:decide (((nodes.map au).length:Int)<=(a:Int))=true:=by simpa using lk
  refine ah Tryz.func132 Tryz.ntmps132 ?_;refine qE ?_;exact ⟨_,iZ,rfl,rfl⟩
 | some n =>
  have ao:=(List.getElem?_eq_some_iff.1 hn).1
  have hd:decide (((nodes.map au).length:Int)<=(a:Int))=false:=by simpa using ao
  have hr:(nodes.map au)[a]?=some (au n):=by rw [getElem?_map,hn];rfl
  have ni:=hk n (mem_of_getElem? hn);simp only;generalize hR:pW (nU nodes f) n.kids (a+1) []=R;refine ah Tryz.func132 Tryz.ntmps132 ?_;refine GW.wk (Wk.Fh (i:=0) (o:=5) 123 1 rfl rfl) ?_
  refine GW.range (n.kids.map fun i=>[GV.v (ii i)]).length (fun k fr Γ=>∃ next acc m rows,fr=[.sl 5 (nodes.map au),.v (ii (a:Nat)),.any,.any,.any,.any,.any,.loc 0 0,.v (ii (next:Nat)),.any,.any,.any,.any,.any,.any,.any,.any,.any,.any,.any,.any,.any,.any,.any,.any,.any,.any,.any,.any,.any,ints n.kids,.v (ii ((n.kids.map fun i=>[GV.v (ii i)]).length:Int)),.v (ii (k:Nat)),.any,.any,.any,.any,.any,.any,.any,.any,.any,.any,.any,.any,.any,.any,.any,.any,.any,.any,.any,.any,.any,.any,.any,.any,.any,.any,.any,.any,.any,.any,.any,.any,.any,.any,.any] /\
   Γ=[.box 149 [.v (ii n.kind),.v (ii n.at_),.v (ii n.n),.v (sv n.s),ints n.kids,.vec 1 m],.vec 123 1 0 rows]/\rows.length=m/\rows=bS acc/\m=k/\a+1<=next/\next<=nodes.length/\pW (nU nodes f) (n.kids.drop k) next acc=R) ?_ (by simpa using ni) ?_ ?_ ?_
  ·exact ⟨_,_,Wk.av aj,a+1,[],0,[],rfl,rfl,rfl,rfl,rfl,Nat.le_refl _,ao,hR⟩
  ·rintro k _ _ ⟨next,acc,m,rows,rfl,rfl,_⟩;exact ⟨rfl,rfl,rfl⟩
  ·rintro k _ _ ef ⟨next,acc,m,rows,rfl,rfl,hm,bj,sG,HB,va,h⟩
   have ef:k < n.kids.length:=by simpa using ef
   have cH:n.kids[k]?=some n.kids[k]:=by simp [ef]
   have AP:(n.kids.map fun i=>[GV.v (ii i)])[k]?=some [.v (ii n.kids[k])]:=by rw [getElem?_map,cH];rfl
   rw [List.drop_eq_getElem_cons ef,pW] at h;generalize n.kids[k]=z at *
   by_cases hz:z=(next:Int)
   ·rw [if_pos hz] at h;subst hz
    have Wa:((next:Int) != (next:Int))=false:=by simp
    have CQ:=ih next (by omega) (by omega)
    cases hq:nU nodes f next with
    | none =>
     rw [hq] at h CQ;subst h;refine ab ?_;refine U [] (CQ) ?_;refine qE ?_;exact ⟨_,iZ,rfl,rfl⟩
    | some x =>
     obtain ⟨t,e⟩:=x;rw [hq] at h CQ;simp only at h
     obtain ⟨s1,s2,_,_⟩:=Go.Im.Ah f next t e hq
     refine ab ?_;refine U [] (CQ) ?_;refine ea ?_;refine ab ?_;exact ⟨rfl,rfl,_,_,Wk.av aj,e,acc++[t],_,_,rfl,rfl,by simp [hm],by rw [Iq,bj],by omega,by omega,s2,h⟩
   ·rw [if_neg hz] at h;subst h
    have Wa:(z != (next:Int))=true:=by simpa using hz
    refine ab ?_;refine qE ?_;exact ⟨_,iZ,rfl,rfl⟩
  ·rintro _ _ ⟨next,acc,m,rows,rfl,rfl,hm,bj,sG,HB,va,h⟩;rw [show n.kids.drop (n.kids.map fun i=>[GV.v (ii i)]).length=[] by simp,pW] at h;subst h;simp only;subst bj;refine aJ ?_;refine GW.wk (Wk.wG (i:=0) (o:=5) (j:=1) rfl rfl rfl rfl hm) ?_
   by_cases h0:n.at_ < 0
   ·rw [if_pos h0]
    have sD:decide ((0:Int)<=n.at_)=false:=by simpa using h0
    refine ab ?_;refine GW.draw (.q 0 (.q 1 (.q 2 (.q 3 (.q 4 (.q 5 (.q 6 (.q 7 (.q 8 (.q 9 (.q 10 .nil))))))))))) (by kernel_rfl) (by kernel_rfl) ?_;refine ai ?_;refine ab ?_;rw [sD];refine GW.wk (Wk.freeze (i:=0) rfl rfl rfl (Nat.le_refl _)) ?_;refine qE ?_;exact ⟨_,iZ,rfl,rfl⟩
   ·rw [if_neg h0]
    have sD:decide ((0:Int)<=n.at_)=true:=by simpa using h0
    refine ab ?_;refine GW.draw (.q 0 (.q 1 (.q 2 (.q 3 (.q 4 (.q 5 (.q 6 (.q 7 (.q 8 (.q 9 (.q 10 .nil))))))))))) (by kernel_rfl) (by kernel_rfl) ?_;refine ai ?_;refine ab ?_;rw [sD];refine GW.wk (Wk.freeze (i:=0) rfl rfl rfl (Nat.le_refl _)) ?_;refine Iw ?_;exact ⟨rfl,rfl⟩
def BE (nodes:List Nd):Option (List T × Nat)->GV
 | none=>.tup [.any,.v (.bool false)]
 | some (l,e)=>.tup [.sl 1 (bS l),.v (.bool ((e:Int)==(nodes.length:Int)))]
theorem vM (p:Src) (hl:p.nodes.length<=1099511627776) (hk:∀ n∈p.nodes,n.kids.length<=1099511627776) (hf:p.fns.length<=1099511627776) :
  GF Tryz.prog 106 [.agg (ak p)] [] (BE p.nodes (iq p.nodes p.fns 0 [])) []:=by
 generalize hR:iq p.nodes p.fns 0 []=R;refine ah Tryz.func106 Tryz.ntmps106 ?_;refine GW.wk (Wk.B9 (t:=4) (a:=none) (c:=0) 123 1 rfl) ?_
 refine GW.range (p.fns.map aq).length (fun k fr Γ=>∃ next acc m rows,fr=[.any,.loc 0 0,.any,.any,.vec 1 m,.v (ii (next:Nat)),.any,.any,.any,.any,.any,.any,.sl 3 (p.fns.map aq),.v (ii ((p.fns.map aq).length:Int)),.v (ii (k:Nat)),.any,.any,.any,.any,.any,.any,.any,.any,.any,.any,.any,.any,.any,.any,.any,.any,.any,.any,.any,.any,.any,.any,.any,.any,.any,.any,.any,.any,.any,.any,.any] /\
  Γ=[.box 34 (ak p),.vec 123 1 0 rows]/\rows.length=m/\rows=bS acc/\m=k/\next<=p.nodes.length/\iq p.nodes (p.fns.drop k) next acc=R) ?_ (by simpa using hf) ?_ ?_ ?_
 ·exact ⟨_,_,Wk.av aj,0,[],0,[],rfl,rfl,rfl,rfl,rfl,Nat.zero_le _,hR⟩
 ·rintro k _ _ ⟨next,acc,m,rows,rfl,rfl,_⟩;exact ⟨rfl,rfl,rfl⟩
 ·rintro k _ _ ef ⟨next,acc,m,rows,rfl,rfl,hm,bj,sG,va,h⟩
  have ef:k < p.fns.length:=by simpa using ef
  have cH:p.fns[k]?=some p.fns[k]:=by simp [ef]
  have AP:(p.fns.map aq)[k]?=some (aq p.fns[k]):=by rw [getElem?_map,cH];rfl
  rw [List.drop_eq_getElem_cons ef,iq] at h;generalize p.fns[k]=fn at *
  have LK:=O4 p.nodes hl hk (p.nodes.length+1) next (by omega) (by omega)
  unfold tr at h
  cases hq:nU p.nodes (p.nodes.length+1) next with
  | none =>
   rw [hq] at h LK;subst h;refine ab ?_;refine U [] (LK) ?_;refine F0 ?_;exact ⟨_,iZ,rfl,rfl⟩
  | some x =>
   obtain ⟨t,e⟩:=x;rw [hq] at h LK;simp only at h
   obtain ⟨s1,s2,_,_⟩:=Go.Im.Ah _ next t e hq
   by_cases hb:fn.body=(next:Int)
   ·rw [if_pos hb] at h
    have aY:(fn.body != (next:Int))=false:=by simpa using hb
    refine ab ?_;refine U [] (LK) ?_;refine ea ?_;refine ab ?_;exact ⟨rfl,rfl,_,_,(Wk.cut (n:=2) (Nat.zero_le _) rfl).trans (Wk.av aj),e,acc++[t],_,_,rfl,rfl,by simp [hm],by rw [Iq,bj],by omega,s2,h⟩
   ·rw [if_neg hb] at h;subst h
    have aY:(fn.body != (next:Int))=true:=by simpa using hb
    refine ab ?_;refine U [] (LK) ?_;refine F0 ?_;exact ⟨_,iZ,rfl,rfl⟩
 ·rintro _ _ ⟨next,acc,m,rows,rfl,rfl,hm,bj,sG,va,h⟩;rw [show p.fns.drop (p.fns.map aq).length=[] by simp,iq] at h;subst h;subst bj;refine aJ ?_;refine GW.wk (Wk.hY (t:=4) rfl rfl rfl hm) ?_
  have SZ:p.nodes.length=(p.nodes.map au).length:=by simp
  unfold BE;rw [SZ];refine ab ?_;refine GW.draw (.q 0 (.q 1 (.q 2 (.q 3 (.q 4 (.q 5 (.q 6 (.q 7 .nil)))))))) (by kernel_rfl) (by kernel_rfl) ?_;refine ai ?_;exact l7
end Go.Xg
namespace Go.Xg
open Go.RowKit Go.Xw Go.Proofs
open Go.Xp (Tok Nd T aZ one levels gn dI dY dr db)
open Go.Sp
attribute [local irreducible] GW GL GO YG GC GA aQ aR
structure PX where
 a:Value
 b:Value
 c:Value
 d:Value
 e:Value
abbrev bE (p:RS) (x:PX):Ob:=.box 167 [iv p.l,.v (ii p.i),.v (ii p.e),.v (ii p.code),.v (ii p.at_),.v x.a,.v x.b,.v x.c,.v x.d,.v x.e]
theorem qP (p:RS) (k:Nat) (x:PX) (hp:p.ok) (hk:k<=1):GF Tryz.prog 180 [.loc 0 0,.v (ii (k:Nat))] [bE p x] (.agg (c6 (Go.Im.tok p k))) [bE p x]:=by
 obtain ⟨ik,di⟩:=hp;unfold Go.Im.tok
 cases ht:p.l[p.i+k]? with
 | some t =>
  have hr:=j0 ht;have ao:p.i+k < p.l.length:=(List.getElem?_eq_some_iff.1 ht).1
  have hd:decide (((p.l.map c6).length:Int)<=((p.i+k:Nat):Int))=false:=by simpa using by omega
  refine ah Tryz.func180 Tryz.ntmps180 ?_;refine GW.draw (.q 0 (.q 1 (.q 2 (.q 3 (.q 4 (.q 5 (.q 6 (.q 7 (.q 8 (.q 9 (.q 10 (.q 11 .nil)))))))))))) (by kernel_rfl) (by kernel_rfl) ?_;refine ai ?_;refine ab ?_;refine GW.draw (.q 0 (.q 1 (.q 2 (.q 3 (.q 4 (.q 5 (.q 6 (.q 7 (.q 8 (.q 9 (.q 10 (.q 11 (.a 12 .nil))))))))))))) (by kernel_rfl) (by kernel_rfl) ?_;refine ai ?_;exact jK
 | none =>
  have ao:p.l.length<=p.i+k:=List.getElem?_eq_none_iff.1 ht
  have hd:decide (((p.l.map c6).length:Int)<=((p.i+k:Nat):Int))=true:=by simpa using by omega
  refine ah Tryz.func180 Tryz.ntmps180 ?_;refine GW.draw (.q 0 (.q 1 (.q 2 (.q 3 (.q 4 (.q 5 (.q 6 (.q 7 (.q 8 (.q 9 (.q 10 (.q 11 .nil)))))))))))) (by kernel_rfl) (by kernel_rfl) ?_;refine ai ?_;exact jK
theorem D8 (p:RS) (c a:Int) (x:PX):GF Tryz.prog 210 [.loc 0 0,.v (ii c),.v (ii a)] [bE p x] (.tup []) [bE (p.fail c a) x]:=by
 unfold RS.fail
 by_cases h:p.code=0
 ·have h':(p.code==0)=true:=by simpa using h
  rw [if_pos h];refine ah Tryz.func210 Tryz.ntmps210 ?_;exact fm
 ·have h':(p.code==0)=false:=by simpa using h
  rw [if_neg h];refine ah Tryz.func210 Tryz.ntmps210 ?_;exact fm
theorem yI (p:RS) (x:PX) (hp:p.ok):GF Tryz.prog 181 [.loc 0 0] [bE p x] (.tup []) [bE (Go.Im.jP p) x]:=by
 have ht:=qP p 0 x hp (by decide);unfold Go.Im.jP;generalize Go.Im.tok p 0=t at *;have hf:=D8 p 7 t.at_ x;refine ah Tryz.func181 Tryz.ntmps181 ?_;refine U [0] (ht) ?_;refine U [0] (hf) ?_;exact fm
theorem vT (p:RS) (d:Nat) (x:PX) (hp:p.ok):GF Tryz.prog 212 [.loc 0 0,.v (ii (d:Nat))] [bE p x] (.v (.bool ((Go.Im.bF p d).code==0))) [bE (Go.Im.bF p d) x]:=by
 have ht:=qP p 0 x hp (by decide);unfold Go.Im.bF;generalize Go.Im.tok p 0=t at *
 by_cases h:d > 60
 ·have h':decide ((60:Int) < (d:Int))=true:=by simpa using by omega
  rw [if_pos h];have hf:=D8 p 9 t.at_ x;generalize p.fail 9 t.at_=q at *;refine ah Tryz.func212 Tryz.ntmps212 ?_;refine U [0] (ht) ?_;refine U [0] (hf) ?_;exact al
 ·have h':decide ((60:Int) < (d:Int))=false:=by simpa using by omega
  rw [if_neg h];refine ah Tryz.func212 Tryz.ntmps212 ?_;exact al
theorem jE (p:RS) (k:Nat) (s:ae) (x:PX) (hp:p.ok) (hk:k<=1):GF Tryz.prog 178 [.loc 0 0,.v (ii (k:Nat)),.v (sv s)] [bE p x] (.v (.bool (Go.Im.is p k s))) [bE p x]:=by
 have ht:=qP p k x hp hk;unfold Go.Im.is;generalize Go.Im.tok p k=t at *
 cases h:(t.kind==3) with
 | true =>
  rw [Bool.true_and];refine ah Tryz.func178 Tryz.ntmps178 ?_;refine U [0] (ht) ?_;exact al
 | false =>
  rw [Bool.false_and];refine ah Tryz.func178 Tryz.ntmps178 ?_;refine U [0] (ht) ?_;exact al
theorem qv (p:RS) (x:PX) (hp:p.ok):GF Tryz.prog 179 [.loc 0 0] [bE p x] (.v (sv (Go.Im.tok p 0).s)) [bE (Go.Im.bd p) x]:=by
 have ht:=qP p 0 x hp (by decide);have hw:=yI p x hp;have S6:=hp.2;have CU:=hp.1;unfold Go.Im.bd;generalize Go.Im.tok p 0=t at *;have hf:=D8 p 8 t.at_ x
 by_cases hc:p.code=0
 ·have dp:(p.code != 0)=false:=by simpa using hc
  rw [if_pos hc]
  by_cases h2:t.kind=2
  ·have pY:(t.kind != 2)=false:=by simpa using h2
   rw [if_pos h2]
   by_cases hl:t.s.length > 12
   ·have jh:decide ((12:Int) < (t.s.length:Int))=true:=by simpa using by omega
    rw [if_pos hl];refine ah Tryz.func179 Tryz.ntmps179 ?_;refine U [0] (ht) ?_;refine U [0] (hf) ?_;exact al
   ·have jh:decide ((12:Int) < (t.s.length:Int))=false:=by simpa using by omega
    rw [if_neg hl];refine ah Tryz.func179 Tryz.ntmps179 ?_;refine U [0] (ht) ?_;exact al
  ·have pY:(t.kind != 2)=true:=by simpa using h2
   rw [if_neg h2];refine ah Tryz.func179 Tryz.ntmps179 ?_;refine U [0] (ht) ?_;refine U [0] (hw) ?_;exact al
 ·have dp:(p.code != 0)=true:=by simpa using hc
  rw [if_neg hc];refine ah Tryz.func179 Tryz.ntmps179 ?_;refine U [0] (ht) ?_;exact al
theorem eI (p:RS) (s:ae) (x:PX) (hp:p.ok):GF Tryz.prog 182 [.loc 0 0,.sl 1 [[.v (sv s)]]] [bE p x] (.tup []) [bE (Go.Im.want p s) x]:=by
 have hi:=jE p 0 s x hp (by decide);have hw:=yI p x hp;have S6:=hp.2;have CU:=hp.1;unfold Go.Im.want;generalize Go.Im.jP p=q at *;have hr:([[GV.v (sv s)]]:List (List GV))[0]?=some [.v (sv s)]:=rfl;refine ah Tryz.func182 Tryz.ntmps182 ?_
 by_cases hc:p.code=0
 ·have dp:(p.code != 0)=false:=by simpa using hc
  rw [if_pos hc]
  cases h:Go.Im.is p 0 s with
  | true =>
   rw [h] at hi;rw [if_pos rfl];refine GW.range 1 (fun k fr Γ=>fr=[.loc 0 0,.any,.any,.any,.any,.any,.sl 1 [[.v (sv s)]],.v (ii ((1:Nat):Int)),.v (ii (k:Nat)),.any,.any,.any,.any,.any,.any,.any,.any,.any,.any,.any,.any,.any,.any,.any,.any,.any,.any,.any,.any,.any,.any]/\((k=0/\Γ=[bE p x])\/(1<=k/\Γ=[bE p.next x]))) ?_ (by decide) ?_ ?_ ?_
   ·exact ⟨_,_,Wk.av aj,rfl,.inl ⟨rfl,rfl⟩⟩
   ·rintro k _ _ ⟨rfl,_⟩;exact ⟨rfl,rfl,rfl⟩
   ·rintro k _ _ hk ⟨rfl,⟨rfl,rfl⟩ | ⟨h1,_⟩⟩
    ·refine ab ?_;refine U [0] (hi) ?_;exact ⟨rfl,rfl,_,_,Wk.av aj,rfl,.inr ⟨Nat.le_refl _,rfl⟩⟩
    ·omega
   ·rintro _ _ ⟨rfl,⟨h1,_⟩ | ⟨_,rfl⟩⟩
    ·cases h1
    ·exact eu
  | false =>
   rw [h] at hi;rw [if_neg (by decide)];refine GW.range 1 (fun k fr Γ=>fr=[.loc 0 0,.any,.any,.any,.any,.any,.sl 1 [[.v (sv s)]],.v (ii ((1:Nat):Int)),.v (ii (k:Nat)),.any,.any,.any,.any,.any,.any,.any,.any,.any,.any,.any,.any,.any,.any,.any,.any,.any,.any,.any,.any,.any,.any]/\k=0/\Γ=[bE p x]) ?_ (by decide) ?_ ?_ ?_
   ·exact ⟨_,_,Wk.av aj,rfl,rfl,rfl⟩
   ·rintro k _ _ ⟨rfl,_⟩;exact ⟨rfl,rfl,rfl⟩
   ·rintro k _ _ hk ⟨rfl,rfl,rfl⟩;refine ab ?_;refine U [0] (hi) ?_;refine U [0] (hw) ?_;exact fm
   ·rintro _ _ ⟨rfl,h1,_⟩;cases h1
 ·have dp:(p.code != 0)=true:=by simpa using hc
  rw [if_neg hc];refine GW.range 1 (fun k fr Γ=>fr=[.loc 0 0,.any,.any,.any,.any,.any,.sl 1 [[.v (sv s)]],.v (ii ((1:Nat):Int)),.v (ii (k:Nat)),.any,.any,.any,.any,.any,.any,.any,.any,.any,.any,.any,.any,.any,.any,.any,.any,.any,.any,.any,.any,.any,.any]/\k=0/\Γ=[bE p x]) ?_ (by decide) ?_ ?_ ?_
  ·exact ⟨_,_,Wk.av aj,rfl,rfl,rfl⟩
  ·rintro k _ _ ⟨rfl,_⟩;exact ⟨rfl,rfl,rfl⟩
  ·rintro k _ _ hk ⟨rfl,rfl,rfl⟩;exact eu
  ·rintro _ _ ⟨rfl,h1,_⟩;cases h1
end Go.Xg
namespace Go.Xg
open Go.RowKit Go.Xw Go.Proofs
open Go.Xp (Tok Nd T aZ one levels)
open Go.Sp
attribute [local irreducible] GW GL GO YG GC GA aQ aR
mutual
def pT:T->GV
 | .mk n l=>.box [.v (ii n.kind),.v (ii n.at_),.v (ii n.n),.v (sv n.s),.v (.slice none 0 0),.sl 1 (jS l)] 0
def jS:List T->List (List GV)
 | []=>[]
 | t::r=>[pT t]::jS r
end
abbrev qT (t:T):GV:=.box [.v (ii t.n.kind),.v (ii t.n.at_),.v (ii t.n.n),.v (sv t.n.s),.v (.slice none 0 0),.sl 1 (jS t.kids)] 0
theorem Vu (t:T):pT t=qT t:=by cases t;rw [pT];rfl
theorem gh (l:List T):jS l=l.map fun t=>[qT t]:=by
 induction l with
 | nil=>rfl
 | cons t l ih=>rw [jS,ih,Vu];rfl
theorem mn (l:List T):(jS l).length=l.length:=by rw [gh];simp
theorem vo (l:List T) (t:T):jS (l++[t])=jS l++[[qT t]]:=by rw [gh,gh];simp
theorem Bf {l:List T} {i:Nat} {t:T} (h:l[i]?=some t):(jS l)[i]?=some [qT t]:=by rw [gh,getElem?_map,h];rfl
theorem Mo (k a:Int) (s:ae) (rows:List (List GV)):GF Tryz.prog 211 [.v (ii k),.v (ii a),.v (sv s),.sl 1 rows] [] (.loc 0 0) [.box 149 [.v (ii k),.v (ii a),.v (ii 0),.v (sv s),.v (.slice none 0 0),.sl 1 rows]]:=by
 refine ah Tryz.func211 Tryz.ntmps211 ?_;refine GW.wk (Wk.cells 0 rfl (ds:=[.v (ii k),.v (ii a),.v (ii 0),.v (sv s),.v (.slice none 0 0),.sl 1 rows]) iZ) ?_;refine GW.ret ?_;refine ql (n:=1) rfl (by first | exact .inr rfl | exact .inl rfl) rfl (Nat.zero_le _) rfl rfl ?_;exact ⟨rfl,rfl⟩
theorem en (k a:Int) (s:ae) (l:List T) (rows:List (List GV)) (h:jS l=rows):GF Tryz.prog 211 [.v (ii k),.v (ii a),.v (sv s),.sl 1 rows] [] (qT (one k a s l)) []:=by
 subst h;refine ah Tryz.func211 Tryz.ntmps211 ?_;refine GW.wk (Wk.cells 0 rfl (ds:=[.v (ii k),.v (ii a),.v (ii 0),.v (sv s),.v (.slice none 0 0),.sl 1 (jS l)]) iZ) ?_;refine GW.wk (Wk.freeze (i:=0) rfl rfl rfl (Nat.zero_le _)) ?_;exact al
theorem sU:GF Tryz.prog 167 [] [] (.sl 1 (levels.map fun l=>[strs l])) []:=by
 refine ah Tryz.func167 Tryz.ntmps167 ?_
 iterate 10 (refine bC ?_)
 exact ar
end Go.Xg
namespace Go.Xg
open Go.RowKit Go.Xw Go.Proofs
open Go.Xp (Tok Nd T levels cn bx aB aw)
open Go.Im (nK rq tI kZ cJ fA tw jx fM oH pJ)
attribute [local irreducible] GW GL GO YG GC GA aQ aR
theorem decDigits_eq (n:Nat):Go.Lib.decDigits n=cn n:=by
 induction n using Nat.strongRecOn with
 | _ n ih =>
  unfold Go.Lib.decDigits cn;split
  ·rfl
  ·rw [ih (n / 10) (by omega)]
theorem QX (n:Int):Go.Lib.itoa n=nK n:=by
 unfold Go.Lib.itoa nK;rw [decDigits_eq,decDigits_eq]
theorem Kf (n:Int) (h0 : -9223372036854775808<=n) (h1:n<=9223372036854775807):GF Tryz.prog 134 [.v (ii n)] [] (.v (sv (nK n))) []:=by
 refine GF.Tx (vs:=[ii n]) fun K β w ht hf=>?_
 obtain ⟨E,z,kX⟩:=sk.all ht hf ht.pow (zs:=vt.map fun z=>Value.int .u64 z) (by decide) (fun m o x hx=>by
  rw [getElem?_map] at hx;unfold w8;rw [if_neg (by decide),if_pos rfl]
  cases hs:vt[o]? with
  | none=>rw [hs] at hx;cases hx
  | some y=>rw [hs] at hx;cases hx;rfl)
 have zR:Go.Lib.TabIs Tryz.prog w "internal/strconv.uint64pow10" .u64 Go.Lib.pow10Tab:=by
  unfold Go.Lib.TabIs World.var?;rw [show Tryz.prog.globalNamed "internal/strconv.uint64pow10" = some 1 by kernel_rfl,show Go.Lib.pow10Tab=vt by decide];simp only [Option.bind_some,kX]
 refine oa.Da (Calls.mono (Tryz.strconv_Itoa n h0 h1 w zR) ?_);rintro e w' ⟨h2,k,os,h3⟩;refine ⟨_,h2,by rw [QX];rfl,?_⟩;subst h3;refine ⟨rfl,rfl,rfl,by simp [Go.Sort.grow,World.drewN],fun j hj _=>?_⟩;simp only [Go.Sort.grow,World.drewN];rw [Array.getElem?_append_left hj]
theorem Oq (l:List ae) (s:ae) (hl:l.length<=1099511627776):GF Tryz.prog 168 [strs l,.box [.v (sv s)] 0] [] (.v (.bool (l.contains s))) []:=by
 have h:=gz l s hl;generalize l.contains s=b at *;refine ah Tryz.func168 Tryz.ntmps168 ?_;refine U [] (h) ?_;exact al
def B3 (ls:List (List ae)) (s:ae):Int:=match ls.findIdx? (fun l=>l.contains s) with | some i=>(i:Int) | none => -1
theorem Gg (ls:List (List ae)) (s:ae) (hn:ls.length<=1099511627776) (hl:∀ l∈ls,l.length<=1099511627776) :
  GF Tryz.prog 166 [.sl 1 (ls.map fun l=>[strs l]),.fn (.func 168) [] [.box [.v (sv s)] 0]] [] (.v (ii (B3 ls s))) []:=by
 have dw:(ls.map fun l=>[strs l]).length=ls.length:=by simp
 refine ah Tryz.func166 Tryz.ntmps166 ?_;refine GW.range (ls.map fun l=>[strs l]).length (fun k fr Γ=>fr=[.sl 1 (ls.map fun l=>[strs l]),.fn (.func 168) [] [.box [.v (sv s)] 0],.any,.any,.any,.any,.any,.v (ii ((ls.map fun l=>[strs l]).length:Int)),.v (ii (k:Nat)),.any,.any,.any,.any,.any,.any,.any,.any,.any,.any]/\Γ=[]/\(ls.take k).all (fun l=>!(l.contains s))=true) ?_ (by omega) ?_ ?_ ?_
 ·exact ⟨_,_,Wk.av aj,rfl,rfl,rfl⟩
 ·rintro k _ _ ⟨rfl,rfl,_⟩;exact ⟨rfl,rfl,rfl⟩
 ·rintro k _ _ ao ⟨rfl,rfl,aK⟩;rw [dw] at ao
  have cH:ls[k]?=some ls[k]:=by simp [ao]
  have hr:(ls.map fun l=>[strs l])[k]?=some [strs ls[k]]:=by rw [getElem?_map,cH];rfl
  have hc:=Oq ls[k] s (hl _ (getElem_mem ao))
  have bm:(ls.take (k+1)).all (fun l=>!(l.contains s))=((ls.take k).all (fun l=>!(l.contains s))&&!(ls[k].contains s)):=by rw [take_add_one,cH,List.all_append];simp
  have y8:ls[k].contains s=true->B3 ls s=(k:Int):=fun h0=>by
   have:ls.findIdx? (fun l=>l.contains s)=some k:=by
    rw [List.findIdx?_eq_some_iff_getElem];refine ⟨ao,h0,fun j hj=>?_⟩;rw [all_eq_true] at aK;have:=aK ls[j] (by rw [List.mem_take_iff_getElem];exact ⟨j,by omega,rfl⟩);simpa using this
   unfold B3;rw [this]
  generalize ls[k]=l at *
  cases hb:l.contains s with
  | true =>
   rw [hb] at hc;rw [y8 hb];refine ab ?_;refine nB [] (hc) ?_;exact ar
  | false =>
   rw [hb] at hc bm;refine ab ?_;refine nB [] (hc) ?_;refine ab ?_;exact ⟨rfl,rfl,_,_,Wk.av aj,rfl,rfl,by rw [bm,aK];rfl⟩
 ·rintro _ _ ⟨rfl,rfl,aK⟩;rw [dw,take_length] at aK
  have:ls.findIdx? (fun l=>l.contains s)=none:=by
   rw [List.findIdx?_eq_none_iff];intro x hx;rw [all_eq_true] at aK;simpa using aK x hx
  unfold B3;rw [this];exact ar
theorem C5 (s:ae):GF Tryz.prog 139 [.v (sv s)] [] (.v (ii (rq s))) []:=by
 have h1:=sU;have h2:=Gg levels s (by decide) (by decide);rw [show rq s=B3 levels s from rfl];generalize B3 levels s=z at *;generalize levels=ls at *;refine ah Tryz.func139 Tryz.ntmps139 ?_;refine GL.wk (Wk.freeze (i:=0) rfl rfl rfl (Nat.le_refl _)) ?_;refine GN (by simp only [mx,lS];rfl) ?_;refine U [] (h1) ?_;refine U [] (h2) ?_;exact al
end Go.Xg
namespace Go.Xg
open Go.RowKit Go.Xw Go.Proofs
open Go.Xp (Tok Nd T levels cn bx aB aw)
open Go.Im (nK rq tI kZ cJ fA tw jx fM oH pJ fQ ux cV)
attribute [local irreducible] GW GL GO YG GC GA aQ aR
theorem Md (t:T) (z:Int):GF Tryz.prog 140 [uT t,.v (ii z)] [] (.v (.bool (kZ t z))) []:=by
 have h:=C5 t.n.s;unfold kZ
 cases hk:(t.n.kind==6) with
 | true =>
  generalize rq t.n.s=y at *;refine ah Tryz.func140 Tryz.ntmps140 ?_;refine U [] (h) ?_;exact al
 | false =>
  refine ah Tryz.func140 Tryz.ntmps140 ?_;exact al
theorem uo (t:T) (b:Bool) (x:ae) (hx:x.length<=1099511627776) (h:GF Tryz.prog 111 [uT t] [] (.v (sv x)) []) :
  GF Tryz.prog 138 [uT t,.v (.bool b)] [] (.v (sv (tI b x))) []:=by
 unfold tI
 cases b with
 | true =>
  refine ah Tryz.func138 Tryz.ntmps138 ?_;refine U [] (h) ?_;exact al
 | false =>
  refine ah Tryz.func138 Tryz.ntmps138 ?_;refine U [] (h) ?_;exact al
theorem Ov (ex:FuncId) [hf:az Tryz.prog ex] (tx:T->ae) (l:List T) (h:∀ t∈l,GF Tryz.prog ex [uT t] [] (.v (sv (tx t))) []) (hj:(bx (l.map tx)).length<=1099511627776) (hl:l.length<=1099511627776) :
  GF Tryz.prog 137 [.sl 1 (bS l),.v (.func (.func ex) #[] #[])] [] (.v (sv (bx (l.map tx)))) []:=by
 have oT:=qB l;have hJ:=Kg (l.map tx) hj (by simpa using hl);refine ah Tryz.func137 Tryz.ntmps137 ?_;refine GW.wk (Wk.B9 (t:=5) (a:=none) (c:=0) 9 1 rfl) ?_;refine GW.range (bS l).length (fun k fr Γ=>∃ m rows,fr=[.sl 1 (bS l),.v (.func (.func ex) #[] #[]),.any,.any,.any,.vec 0 m,.any,.any,.sl 1 (bS l),.v (ii ((bS l).length:Int)),.v (ii (k:Nat)),.any,.any,.any,.any,.any,.any,.any,.any,.any,.any,.any,.any]/\Γ=[.vec 9 1 0 rows]/\rows.length=m/\rows=((l.take k).map tx).map (fun s=>[GV.v (sv s)])/\m=k) ?_ (by omega) ?_ ?_ ?_
 ·exact ⟨_,_,Wk.av aj,0,[],rfl,rfl,rfl,rfl,rfl⟩
 ·rintro k _ _ ⟨m,rows,rfl,rfl,_⟩;exact ⟨rfl,rfl,rfl⟩
 ·rintro k _ _ ao ⟨m,rows,rfl,rfl,hm,bj,sG⟩;rw [oT] at ao
  have cH:l[k]?=some l[k]:=by simp [ao]
  have hr:=vw cH;have ht:=h l[k] (getElem_mem ao)
  have bm:((l.take (k+1)).map tx).map (fun s=>[GV.v (sv s)])=rows++[[.v (sv (tx l[k]))]]:=by rw [take_add_one,cH,bj,map_append,map_append];rfl
  generalize l[k]=t at *;refine ab ?_;refine iw [] (ht) ?_;refine ab ?_;refine ea ?_;refine ab ?_;exact ⟨rfl,rfl,_,_,Wk.av aj,_,_,rfl,rfl,by simp [hm],bm.symm,by omega⟩
 ·rintro _ _ ⟨m,rows,rfl,rfl,hm,bj,sG⟩;rw [oT,take_length] at bj;refine aJ ?_;refine GW.wk (Wk.hY (t:=5) rfl rfl rfl hm) ?_;subst bj;refine ab ?_;refine U [] (hJ) ?_;exact al
theorem U0 {t:T} (h:cV t.n.kind t.kids.length=true) (hk:t.n.kind=3\/t.n.kind=5):∃ a,t.kids=[a]:=by
 have:t.kids.length=1:=by
  unfold cV at h
  rcases hk with hk | hk <;> rw [hk] at h <;> simp at h <;> omega
 match hl:t.kids,this with
 | [a],_=>exact ⟨a,rfl⟩
theorem U1 {t:T} (h:cV t.n.kind t.kids.length=true) (hk:t.n.kind=6):∃ a b,t.kids=[a,b]:=by
 have:t.kids.length=2:=by
  unfold cV at h;rw [hk] at h;simp at h;omega
 match hl:t.kids,this with
 | [a,b],_=>exact ⟨a,b,rfl⟩
theorem RN:∀ (N:Nat) (t:T),aB t<=N->fQ t=true->oH t->jx t<=1099511627776->GF Tryz.prog 111 [uT t] [] (.v (sv (cJ t))) []:=by
 intro N
 induction N with
 | zero=>intro t h;rw [Go.Xp.eo] at h;omega
 | succ N ih =>
 intro t hN hk hn hw;have hlen:=Go.Im.vF _ t (Nat.le_refl _) hn;rw [Go.Xp.eo] at hN;rw [Go.Im.xI,Bool.and_eq_true,Go.Im.sO,all_eq_true] at hk;rw [Go.Im.qy] at hn
 have jV:∀ a∈t.kids,GF Tryz.prog 111 [uT a] [] (.v (sv (cJ a))) []/\(cJ a).length<=1099511627776:=fun a ha=>by
  have h1:=Go.Im.tA ha;rw [Go.Im.oy] at hw;have h3:=Go.Im.jw hn.2 ha
  have h2:aB a<=aw t.kids:=by
   have:∀ (l:List T),a∈l->aB a<=aw l:=by
    intro l
    induction l with
    | nil=>intro h;cases h
    | cons b l ih2 =>
     intro h;rw [aw]
     rcases List.mem_cons.1 h with rfl | h
     ·omega
     ·have:=ih2 h;omega
   exact this _ ha
  have h4:=Go.Im.vF _ a (Nat.le_refl _) h3;exact ⟨ih a (by omega) (hk.2 a ha) h3 (by omega),by omega⟩
 rw [Go.Im.MO] at hlen |-;unfold tw at hlen |-;have ng:=hk.1;have VR:=@U0 t ng;have W3:=@U1 t ng;have SY:=Kf t.n.n hn.1.1 hn.1.2;have HA:=C5 t.n.s
 have ef:t.kids.length<=1099511627776:=by
  have:=Go.Im.Om t.kids;rw [Go.Im.oy] at hw;omega
 have DD:=fun hj=>Ov 111 cJ t.kids (fun a ha=>(jV a ha).1) hj ef
 rw [<-Go.Im.Ct] at DD
 have rj:t.n.s.length<=1099511627776:=by rw [Go.Im.oy] at hw;omega
 have PL:(bx (fA t.kids)).length<=1099511627776:=by
  have h1:=Go.Im.zX (fA t.kids)
  have h2:((fA t.kids).map fun y=>y.length+2).sum<=fM t.kids:=by
   have:∀ (l:List T),pJ l->((fA l).map fun y=>y.length+2).sum<=fM l:=by
    intro l
    induction l with
    | nil=>intro _;simp [fA]
    | cons a l ih2 =>
     intro h;rw [pJ] at h;have h1:=Go.Im.vF _ a (Nat.le_refl _) h.1;have h2:=ih2 h.2;rw [fA,fM,List.map_cons,sum_cons];omega
   exact this _ hn.2
  rw [Go.Im.oy] at hw;omega
 have DD:=DD PL;clear PL;unfold uT;generalize iC:t.n.kind=kd at *
 by_cases h1:kd=1
 ·subst h1
  have f1:((1:Int)==1)=true:=by decide
  rw [if_pos rfl];refine ah Tryz.func111 Tryz.ntmps111 ?_;refine U [] (SY) ?_;exact al
 rw [if_neg h1] at hlen |-
 have g1:(kd==1)=false:=by simpa using h1
 by_cases h3:kd=3
 ·subst h3
  have f1:((3:Int)==1)=false:=by decide
  have f3:((3:Int)==3)=true:=by decide
  rw [if_pos rfl] at hlen |-;obtain ⟨a,ha⟩:=VR (.inl rfl);rw [ha] at jV hlen |-;obtain ⟨c1,c2⟩:=jV a (List.mem_singleton.2 rfl)
  have hr:(bS [a])[0]?=some [uT a]:=by rw [ke];rfl
  simp only [fA,getD_cons_zero] at hlen |-;generalize bS [a]=rows at *;generalize cJ a=x at *;refine ah Tryz.func111 Tryz.ntmps111 ?_;refine GW.draw (.q 0 (.q 1 (.q 2 (.q 3 (.q 4 (.q 5 (.q 6 (.q 7 (.q 8 (.q 9 (.q 10 (.q 11 (.a 12 (.q 13 (.q 14 (.q 15 .nil)))))))))))))))) (by kernel_rfl) (by kernel_rfl) ?_;refine ai ?_;refine ax [] (c1) ?_;exact ar
 rw [if_neg h3] at hlen |-
 have g3:(kd==3)=false:=by simpa using h3
 by_cases h4:kd=4
 ·subst h4
  have f1:((4:Int)==1)=false:=by decide
  have f3:((4:Int)==3)=false:=by decide
  have f4:((4:Int)==4)=true:=by decide
  rw [if_pos rfl] at hlen |-;generalize bS t.kids=rows at *;generalize bx (fA t.kids)=x at *;simp only [length_append,length_cons,length_nil] at hlen;refine ah Tryz.func111 Tryz.ntmps111 ?_;refine GW.draw (.q 0 (.q 1 (.q 2 (.q 3 (.q 4 (.q 5 (.q 6 (.q 7 (.q 8 (.q 9 (.a 10 (.q 11 (.q 12 (.q 13 .nil)))))))))))))) (by kernel_rfl) (by kernel_rfl) ?_;refine ai ?_;refine ax [] (DD) ?_;exact ar
 rw [if_neg h4] at hlen |-
 have g4:(kd==4)=false:=by simpa using h4
 by_cases h5:kd=5
 ·subst h5
  have f1:((5:Int)==1)=false:=by decide
  have f3:((5:Int)==3)=false:=by decide
  have f4:((5:Int)==4)=false:=by decide
  have f5:((5:Int)==5)=true:=by decide
  rw [if_pos rfl] at hlen |-;obtain ⟨a,ha⟩:=VR (.inr rfl);rw [ha] at jV hlen |-;obtain ⟨c1,c2⟩:=jV a (List.mem_singleton.2 rfl)
  have hr:(bS [a])[0]?=some [uT a]:=by rw [ke];rfl
  simp only [fA,getD_cons_zero] at hlen |-;have SG:=uo a (a.n.kind==6) (cJ a) c2 c1;have mH:=Go.Im.ye (a.n.kind==6) (cJ a);generalize bS [a]=rows at *;generalize Y3:tI (a.n.kind==6) (cJ a)=x at *;refine ah Tryz.func111 Tryz.ntmps111 ?_;refine GW.draw (.q 0 (.q 1 (.q 2 (.q 3 (.q 4 (.q 5 (.q 6 (.q 7 (.q 8 (.q 9 (.q 10 (.q 11 (.q 12 (.q 13 (.q 14 (.q 15 (.q 16 (.q 17 (.q 18 (.q 19 (.q 20 (.q 21 (.q 22 (.a 23 (.q 24 (.q 25 .nil)))))))))))))))))))))))))) (by kernel_rfl) (by kernel_rfl) ?_;refine ai ?_;refine ax [] (SG) ?_;exact ar
 rw [if_neg h5] at hlen |-
 have g5:(kd==5)=false:=by simpa using h5
 by_cases h6:kd=6
 ·subst h6
  have f1:((6:Int)==1)=false:=by decide
  have f3:((6:Int)==3)=false:=by decide
  have f4:((6:Int)==4)=false:=by decide
  have f5:((6:Int)==5)=false:=by decide
  have f6:((6:Int)==6)=true:=by decide
  rw [if_pos rfl] at hlen |-;obtain ⟨a,b,ha⟩:=W3 rfl;rw [ha] at jV hlen |-;obtain ⟨c1,c2⟩:=jV a (List.mem_cons_self);obtain ⟨d1,d2⟩:=jV b (List.mem_cons_of_mem _ List.mem_cons_self)
  have hr:(bS [a,b])[0]?=some [uT a]:=by rw [ke];rfl
  have gD:(bS [a,b])[1]?=some [uT b]:=by rw [ke];rfl
  simp only [fA,getD_cons_zero,getD_cons_succ] at hlen |-
  have ZS : -1<=rq t.n.s/\rq t.n.s<=9:=by
   unfold rq
   cases hf:levels.findIdx? (fun l=>l.contains t.n.s) with
   | none=>simp
   | some i =>
    rw [List.findIdx?_eq_some_iff_getElem] at hf;have:=hf.1
    have h9:levels.length=9:=by decide
    simp only;omega
  generalize rq t.n.s=lv at *;have fb:=Md a lv;have ko:=Md b (lv+1);have SG:=uo a (kZ a lv) (cJ a) c2 c1;have WN:=uo b (kZ b (lv+1)) (cJ b) d2 d1;generalize bS [a,b]=rows at *;generalize Y3:tI (kZ a lv) (cJ a)=x at *;generalize hyy:tI (kZ b (lv+1)) (cJ b)=y at *;simp only [length_append,length_cons,length_nil] at hlen;refine ah Tryz.func111 Tryz.ntmps111 ?_;refine U [] (HA) ?_;refine GW.draw (.q 0 (.q 1 (.q 2 (.q 3 (.q 4 (.q 5 (.q 6 (.q 7 (.q 8 (.q 9 (.q 10 (.q 11 (.q 12 (.q 13 (.q 17 (.q 18 (.q 19 (.q 20 (.q 21 (.q 24 (.q 25 (.q 26 (.q 27 (.q 28 (.q 29 (.q 30 (.q 31 (.q 32 (.q 33 (.q 34 (.q 35 (.q 36 (.q 37 (.q 38 (.a 14 (.a 15 (.q 16 (.q 22 (.q 23 (.a 39 (.a 40 (.q 41 (.q 42 .nil))))))))))))))))))))))))))))))))))))))))))) (by kernel_rfl) (by kernel_rfl) ?_;refine ai ?_;refine x7 [] (fb) ?_;refine ai ?_;refine ax [] (SG) ?_;refine x7 [] (ko) ?_;refine ai ?_;refine ax [] (WN) ?_;exact ar
 rw [if_neg h6]
 have g6:(kd==6)=false:=by simpa using h6
 refine ah Tryz.func111 Tryz.ntmps111 ?_;exact al
end Go.Xg
set_option maxHeartbeats 2000000
namespace Go.Xg
open Go.RowKit Go.Xw Go.Proofs
open Go.Xp (Tok Nd T levels cn bx aB aw)
open Go.Im
attribute [local irreducible] GW GL GO YG GC GA aQ aR
abbrev iy (f:FuncId):Value:=.func (.func f) #[] #[]
theorem N3 (l:List ae) (d:Nat) (hb:(fu l d).length<=1099511627776) (hl:l.length<=1099511627776):GF Tryz.prog 112 [strs l,.v (ii (d:Nat))] [] (.v (sv (fu l d))) []:=by
 have dw:(l.map fun s=>[GV.v (sv s)]).length=l.length:=by simp
 have Hy:=sr l [123,32];unfold fu at hb |-;rw [length_append,Hy] at hb;refine ah Tryz.func112 Tryz.ntmps112 ?_;refine GW.range (l.map fun s=>[GV.v (sv s)]).length (fun k fr Γ=>fr=[strs l,.any,.any,.any,.any,.v (sv (rE [123,32] (l.take k))),.any,.any,strs l,.v (ii ((l.map fun s=>[GV.v (sv s)]).length:Int)),.v (ii (k:Nat)),.any,.any,.any,.any,.any,.any,.any,.any,.any,.any]/\Γ=[]) ?_ (by omega) ?_ ?_ ?_
 ·exact ⟨_,_,Wk.av aj,rfl,rfl⟩
 ·rintro k _ _ ⟨rfl,rfl⟩;exact ⟨rfl,rfl,rfl⟩
 ·rintro k _ _ ao ⟨rfl,rfl⟩;rw [dw] at ao
  have cH:l[k]?=some l[k]:=by simp [ao]
  have AP:(l.map fun s=>[GV.v (sv s)])[k]?=some [.v (sv l[k])]:=by rw [getElem?_map,cH];rfl
  have h1:=sr (l.take (k+1)) [123,32];have h2:=MK l (k+1)
  have hz:jX (l.take (k+1))=jX (l.take k)+(l[k].length+1):=by rw [take_add_one,cH,FJ];simp [jX]
  have h3:=sr (l.take k) [123,32];rw [show l.take (k+1)=l.take k++[l[k]] by rw [take_add_one,cH];rfl,Kz] at |-;generalize l[k]=z at *;generalize rE [123,32] (l.take k)=acc at *;simp only [length_cons,length_nil] at h3 hb
  have ZL:acc.length+z.length+3<=1099511627777:=by omega
  refine ab ?_;exact ⟨rfl,rfl,_,_,Wk.av aj,rfl,rfl⟩
 ·rintro _ _ ⟨rfl,rfl⟩;rw [dw,take_length];generalize rE [123,32] l=acc at *;simp only [length_append,length_cons,length_nil] at Hy hb;exact ar
theorem Vg (ex bk:FuncId) [hf:az Tryz.prog ex] (tx:T->ae) (t a:T) (k:Nat) (hk:t.kids[k]?=some a) (h:GF Tryz.prog ex [uT a] [] (.v (sv (tx a))) []) :
  GF Tryz.prog 204 [.v (ii (k:Nat)),.box [.v (iy ex),.v (iy bk)] 0,.box [uT t] 0] [] (.v (sv (tx a))) []:=by
 have hr:=vw hk;generalize tx a=x at *;refine ah Tryz.func204 Tryz.ntmps204 ?_;refine GW.draw (.q 0 (.q 1 (.q 2 (.q 3 (.q 4 (.q 5 (.q 6 (.q 7 (.q 8 (.a 9 (.q 10 .nil))))))))))) (by kernel_rfl) (by kernel_rfl) ?_;refine ai ?_;refine x7 [] (h) ?_;refine ai ?_;exact ar
end Go.Xg
namespace Go.Xg
open Go.RowKit Go.Xw Go.Proofs
open Go.Xp (Tok Nd T levels cn bx aB aw)
open Go.Im
attribute [local irreducible] GW GL GO YG GC GA aQ aR
structure Wr (ex bk:FuncId) (tx:T->ae) (inl:List ae->Nat->ae):Prop where
 expr:∀ a,fQ a=true->oH a->jx a<=1099511627776->GF Tryz.prog ex [uT a] [] (.v (sv (tx a))) []
 block:∀ l (d:Nat),(inl l d).length<=1099511627776->l.length<=1099511627776->d<=1099511627776->GF Tryz.prog bk [strs l,.v (ii (d:Nat))] [] (.v (sv (inl l d))) []
 mem:∀ l d s,s∈l->s.length<=(inl l d).length
theorem yS (ex bk:FuncId) [he:az Tryz.prog ex] [hb:az Tryz.prog bk] (tx:T->ae) (inl:List ae->Nat->ae) (W:Wr ex bk tx inl) (t:T) (d:Nat) (hd:d+1<=1099511627776) (hl:t.kids.length<=1099511627776) (hlen:(mG tx inl d t).length<=1099511627776)
  (h:∀ a∈t.kids,(jJ tx inl (d+1) a).length<=1099511627776->GF Tryz.prog 165 [.agg [.v (iy ex),.v (iy bk)],uT a,.v (ii ((d+1:Nat):Int))] [] (.v (sv (jJ tx inl (d+1) a))) []) :
  GF Tryz.prog 136 [.agg [.v (iy ex),.v (iy bk)],uT t,.v (ii (d:Nat))] [] (.v (sv (mG tx inl d t))) []:=by
 have oT:=qB t.kids;rw [Ks,Ij] at hlen |-;have dH:=W.block (t.kids.map (jJ tx inl (d+1))) d hlen (by simpa using hl) (by omega)
 have hk:∀ a∈t.kids,GF Tryz.prog 165 [.agg [.v (iy ex),.v (iy bk)],uT a,.v (ii ((d+1:Nat):Int))] [] (.v (sv (jJ tx inl (d+1) a))) []:=fun a ha =>
  h a ha (Nat.le_trans (W.mem _ d _ (List.mem_map.2 ⟨a,ha,rfl⟩)) hlen)
 generalize inl (t.kids.map (jJ tx inl (d+1))) d=y at *;refine ah Tryz.func136 Tryz.ntmps136 ?_;refine GW.wk (Wk.B9 (t:=7) (a:=none) (c:=0) 9 1 rfl) ?_;refine GW.range (bS t.kids).length (fun k fr Γ=>∃ m rows,fr=[.any,.any,.v (ii (d:Nat)),.loc 0 0,.any,.any,.any,.vec 1 m,.any,.any,.any,.any,.any,.sl 1 (bS t.kids),.v (ii ((bS t.kids).length:Int)),.v (ii (k:Nat)),.any,.any,.any,.any,.any,.any,.any,.any,.any,.any,.any,.any,.any,.any,.any,.any,.any]/\Γ=[.box 151 [.v (iy ex),.v (iy bk)],.vec 9 1 0 rows]/\rows.length=m/\rows=((t.kids.take k).map (jJ tx inl (d+1))).map (fun s=>[GV.v (sv s)])/\m=k) ?_ (by omega) ?_ ?_ ?_
 ·exact ⟨_,_,Wk.av aj,0,[],rfl,rfl,rfl,rfl,rfl⟩
 ·rintro k _ _ ⟨m,rows,rfl,rfl,_⟩;exact ⟨rfl,rfl,rfl⟩
 ·rintro k _ _ ao ⟨m,rows,rfl,rfl,hm,bj,sG⟩;rw [oT] at ao
  have cH:t.kids[k]?=some t.kids[k]:=by simp [ao]
  have hr:=vw cH;have ht:=hk t.kids[k] (getElem_mem ao)
  have bm:((t.kids.take (k+1)).map (jJ tx inl (d+1))).map (fun s=>[GV.v (sv s)])=rows++[[.v (sv (jJ tx inl (d+1) t.kids[k]))]]:=by rw [take_add_one,cH,bj,map_append,map_append];rfl
  generalize t.kids[k]=xJ at *;generalize jJ tx inl (d+1) xJ=z at *;refine ab ?_;refine U [] (ht) ?_;refine ea ?_;refine ab ?_;exact ⟨rfl,rfl,_,_,Wk.av aj,_,_,rfl,rfl,by simp [hm],bm.symm,by omega⟩
 ·rintro _ _ ⟨m,rows,rfl,rfl,hm,bj,sG⟩;rw [oT,take_length] at bj;refine aJ ?_;refine GW.wk (Wk.hY (t:=7) rfl rfl rfl hm) ?_;subst bj;refine ab ?_;refine iw [] (dH) ?_;exact ar
theorem U2 {t:T} {n:Nat} (h:cV t.n.kind t.kids.length=true) (hk:(n=1/\(t.n.kind=13\/t.n.kind=7\/t.n.kind=11\/t.n.kind=12))\/(n=2/\(t.n.kind=8\/t.n.kind=10))):t.kids.length=n:=by
 unfold cV at h
 rcases hk with ⟨rfl,hk⟩ | ⟨rfl,hk⟩
 ·rcases hk with hk | hk | hk | hk <;> rw [hk] at h <;> simp at h <;> omega
 ·rcases hk with hk | hk <;> rw [hk] at h <;> simp at h <;> omega
theorem Tr {t:T} (h:cV t.n.kind t.kids.length=true) (hk:t.n.kind=9):t.kids.length=2\/t.kids.length=3:=by
 unfold cV at h;rw [hk] at h;simp at h;omega
theorem GR (ex bk:FuncId) [he:az Tryz.prog ex] [hb:az Tryz.prog bk] (tx:T->ae) (inl:List ae->Nat->ae) (W:Wr ex bk tx inl):∀ (N:Nat) (t:T),aB t<=N->fQ t=true->oH t->jx t<=1099511627776->∀ d,d+aB t<=1099511627776->(jJ tx inl d t).length<=1099511627776 ->
  GF Tryz.prog 165 [.agg [.v (iy ex),.v (iy bk)],uT t,.v (ii (d:Nat))] [] (.v (sv (jJ tx inl d t))) []:=by
 intro N
 induction N with
 | zero=>intro t h;rw [Go.Xp.eo] at h;omega
 | succ N ih =>
 intro t hN hk hn hw d hd hlen;have gw:=W.expr t hk hn hw;rw [Go.Xp.eo] at hN hd;rw [Go.Im.xI,Bool.and_eq_true,Go.Im.sO,all_eq_true] at hk;rw [Go.Im.qy] at hn;have hwe:=Go.Im.oy t
 have Ji:∀ (l:List T) (a:T),a∈l->aB a<=aw l:=by
  intro l
  induction l with
  | nil=>intro a h;cases h
  | cons b l ih2 =>
   intro a h;rw [aw]
   rcases List.mem_cons.1 h with rfl | h
   ·omega
   ·have:=ih2 a h;omega
 have eH:=fun (k:Nat) (a:T) (mJ:t.kids[k]?=some a)=>Vg ex bk tx t a k mJ (W.expr a (hk.2 a (mem_of_getElem? mJ)) (Go.Im.jw hn.2 (mem_of_getElem? mJ)) (by have:=Go.Im.tA (mem_of_getElem? mJ);omega))
 have dH:∀ a∈t.kids,(mG tx inl d a).length<=1099511627776->GF Tryz.prog 136 [.agg [.v (iy ex),.v (iy bk)],uT a,.v (ii (d:Nat))] [] (.v (sv (mG tx inl d a))) []:=fun a ha SW=>by
  have h1:=Ji _ a ha;have h2:=Go.Im.tA ha;have h3:=hk.2 a ha;have h4:=Go.Im.jw hn.2 ha;rw [Go.Im.xI,Bool.and_eq_true,Go.Im.sO,all_eq_true] at h3;rw [Go.Im.qy] at h4;have h5:=Go.Xp.eo a;have h6:=Go.Xp.cR a.kids;have h7:=Go.Im.oy a
  refine yS ex bk tx inl W a d (by omega) (by omega) SW fun b eG YE=>?_
  have h8:=Ji _ b eG;have h9:=Go.Im.tA eG;exact ih b (by omega) (h3.2 b eG) (Go.Im.jw h4.2 eG) (by omega) (d+1) (by omega) YE
 rw [MH] at hlen |-;unfold wX at hlen |-;rw [G4] at hlen |-;have ng:=@U2 t;have W4:=@Tr t hk.1
 have ng:=fun n=>@ng n hk.1
 unfold uT at gw |-;unfold uT at eH;generalize iC:t.n.kind=kd at *
 by_cases eE:kd=13
 ·subst eE
  have f13:((13:Int)==13)=true:=by decide
  rw [if_pos rfl] at hlen |-;have fb:=ng 1 (.inl ⟨rfl,.inl rfl⟩)
  obtain ⟨a,ha⟩:∃ a,t.kids=[a]:=by
   match hl:t.kids,fb with
   | [a],_=>exact ⟨a,rfl⟩
  have h0:=eH 0 a (by rw [ha];rfl);rw [ha] at hlen |-;rw [ha] at h0;simp only [List.map_cons,map_nil,getD_cons_zero,length_append,length_cons,length_nil] at hlen |-;generalize tx a=x at *;generalize bS [a]=rows at *;refine cM Tryz.func165 Tryz.ntmps165 ?_;refine gP ?_;refine GL.wk (Wk.freeze (i:=0) rfl rfl rfl (Nat.zero_le _)) ?_;refine GL.wk (Wk.freeze (i:=1) rfl rfl rfl (Nat.zero_le _)) ?_;refine GN (by simp only [mx,lS];rfl) ?_;refine ab ?_;refine GW.draw (.q 0 (.q 1 (.q 2 (.q 3 (.q 4 (.q 5 (.q 6 (.q 7 (.a 8 (.q 9 (.q 10 (.q 11 .nil)))))))))))) (by kernel_rfl) (by kernel_rfl) ?_;refine ai ?_;refine nC [] (h0) ?_;refine ai ?_;exact ar
 rw [if_neg eE] at hlen |-
 have g13:(kd==13)=false:=by simpa using eE
 by_cases h7:kd=7
 ·subst h7
  have f13:((7:Int)==13)=false:=by decide
  have f7:((7:Int)==7)=true:=by decide
  rw [if_pos rfl] at hlen |-;have fb:=ng 1 (.inl ⟨rfl,.inr (.inl rfl)⟩)
  obtain ⟨a,ha⟩:∃ a,t.kids=[a]:=by
   match hl:t.kids,fb with
   | [a],_=>exact ⟨a,rfl⟩
  have h0:=eH 0 a (by rw [ha];rfl);rw [ha] at hlen |-;rw [ha] at h0;simp only [List.map_cons,map_nil,getD_cons_zero,length_append,length_cons,length_nil] at hlen |-;generalize tx a=x at *;generalize bS [a]=rows at *;refine cM Tryz.func165 Tryz.ntmps165 ?_;refine gP ?_;refine GL.wk (Wk.freeze (i:=0) rfl rfl rfl (Nat.zero_le _)) ?_;refine GL.wk (Wk.freeze (i:=1) rfl rfl rfl (Nat.zero_le _)) ?_;refine GN (by simp only [mx,lS];rfl) ?_;refine ab ?_;refine GW.draw (.q 0 (.q 1 (.q 2 (.q 3 (.q 4 (.q 5 (.q 6 (.a 7 (.q 8 (.q 9 (.q 10 .nil))))))))))) (by kernel_rfl) (by kernel_rfl) ?_;refine ai ?_;refine nC [] (h0) ?_;refine ai ?_;exact ar
 rw [if_neg h7] at hlen |-
 have g7:(kd==7)=false:=by simpa using h7
 by_cases h8:kd=8
 ·subst h8
  have f13:((8:Int)==13)=false:=by decide
  have f7:((8:Int)==7)=false:=by decide
  have f8:((8:Int)==8)=true:=by decide
  rw [if_pos rfl] at hlen |-;have fb:=ng 2 (.inr ⟨rfl,.inl rfl⟩)
  obtain ⟨a,b,ha⟩:∃ a b,t.kids=[a,b]:=by
   match hl:t.kids,fb with
   | [a,b],_=>exact ⟨a,b,rfl⟩
  have h0:=eH 0 a (by rw [ha];rfl);have h1:=eH 1 b (by rw [ha];rfl);rw [ha] at hlen |-;rw [ha] at h0 h1;simp only [List.map_cons,map_nil,getD_cons_zero,getD_cons_succ,length_append,length_cons,length_nil] at hlen |-;generalize tx a=x at *;generalize tx b=y at *;generalize bS [a,b]=rows at *;refine cM Tryz.func165 Tryz.ntmps165 ?_;refine gP ?_;refine GL.wk (Wk.freeze (i:=0) rfl rfl rfl (Nat.zero_le _)) ?_;refine GL.wk (Wk.freeze (i:=1) rfl rfl rfl (Nat.zero_le _)) ?_;refine GN (by simp only [mx,lS];rfl) ?_;refine ab ?_;refine GW.draw (.q 0 (.q 1 (.q 2 (.q 3 (.q 4 (.q 5 (.q 6 (.q 10 (.a 7 (.q 8 (.q 9 (.a 11 (.q 12 (.q 13 (.q 14 .nil))))))))))))))) (by kernel_rfl) (by kernel_rfl) ?_;refine ai ?_;refine nC [] (h0) ?_;refine ai ?_;refine nC [] (h1) ?_;refine ai ?_;exact ar
 rw [if_neg h8] at hlen |-
 have g8:(kd==8)=false:=by simpa using h8
 by_cases h9:kd=9
 ·subst h9
  have f13:((9:Int)==13)=false:=by decide
  have f7:((9:Int)==7)=false:=by decide
  have f8:((9:Int)==8)=false:=by decide
  have f9:((9:Int)==9)=true:=by decide
  rw [if_pos rfl] at hlen |-
  rcases W4 rfl with fb | fb
  ·skip
   obtain ⟨a,b,ha⟩:∃ a b,t.kids=[a,b]:=by
    match hl:t.kids,fb with
    | [a,b],_=>exact ⟨a,b,rfl⟩
   have h0:=eH 0 a (by rw [ha];rfl)
   have gD:(bS [a,b])[1]?=some [uT b]:=by rw [ke];rfl
   have EJ:(bS [a,b]).length=2:=by rw [qB];rfl
   have sJ:(((bS [a,b]).length:Int)==3)=false:=by rw [EJ];decide
   rw [ha] at hlen |-;rw [ha] at h0;rw [if_neg (by simp)] at hlen |-;simp only [List.map_cons,map_nil,getD_cons_zero,getD_cons_succ,length_append,length_cons,length_nil] at hlen |-;have yZ:=dH b (by rw [ha];simp) (by omega);generalize tx a=x at *;generalize mG tx inl d b=y at *;clear dH eH ih;generalize bS [a,b]=rows at *;refine cM Tryz.func165 Tryz.ntmps165 ?_;refine gP ?_;refine GL.wk (Wk.freeze (i:=0) rfl rfl rfl (Nat.zero_le _)) ?_;refine GL.wk (Wk.freeze (i:=1) rfl rfl rfl (Nat.zero_le _)) ?_;refine GN (by simp only [mx,lS];rfl) ?_;refine ab ?_;refine GW.draw (.q 0 (.q 4 (.q 5 (.q 6 (.q 7 (.q 8 (.q 9 (.q 10 (.q 11 (.a 1 (.q 2 (.q 3 (.a 12 (.q 13 (.q 14 .nil))))))))))))))) (by kernel_rfl) (by kernel_rfl) ?_;refine ai ?_;refine nC [] (h0) ?_;refine ai ?_;refine ax [] (yZ) ?_;exact ar
  ·skip
   obtain ⟨a,b,c,ha⟩:∃ a b c,t.kids=[a,b,c]:=by
    match hl:t.kids,fb with
    | [a,b,c],_=>exact ⟨a,b,c,rfl⟩
   have h0:=eH 0 a (by rw [ha];rfl)
   have gD:(bS [a,b,c])[1]?=some [uT b]:=by rw [ke];rfl
   have dj:(bS [a,b,c])[2]?=some [uT c]:=by rw [ke];rfl
   have EJ:(bS [a,b,c]).length=3:=by rw [qB];rfl
   have sJ:(((bS [a,b,c]).length:Int)==3)=true:=by rw [EJ];decide
   rw [ha] at hlen |-;rw [ha] at h0;rw [if_pos (by simp)] at hlen |-;simp only [List.map_cons,map_nil,getD_cons_zero,getD_cons_succ,length_append,length_cons,length_nil] at hlen |-;have yZ:=dH b (by rw [ha];simp) (by omega);have eG:=dH c (by rw [ha];simp) (by omega);generalize tx a=x at *;generalize mG tx inl d b=y at *;generalize mG tx inl d c=z at *;clear dH eH ih;generalize bS [a,b,c]=rows at *;refine cM Tryz.func165 Tryz.ntmps165 ?_;refine gP ?_;refine GL.wk (Wk.freeze (i:=0) rfl rfl rfl (Nat.zero_le _)) ?_;refine GL.wk (Wk.freeze (i:=1) rfl rfl rfl (Nat.zero_le _)) ?_;refine GN (by simp only [mx,lS];rfl) ?_;refine ab ?_;refine GW.draw (.q 0 (.q 4 (.q 5 (.q 6 (.q 7 (.q 8 (.q 9 (.q 10 (.q 11 (.a 1 (.q 2 (.q 3 (.a 12 (.q 13 (.q 14 .nil))))))))))))))) (by kernel_rfl) (by kernel_rfl) ?_;refine ai ?_;refine nC [] (h0) ?_;refine ai ?_;refine ax [] (yZ) ?_;refine ab ?_;refine GW.draw (.q 0 (.q 1 (.q 2 (.q 3 (.q 4 (.q 5 (.q 6 (.q 7 (.q 8 (.a 9 (.q 10 (.q 11 (.q 12 .nil))))))))))))) (by kernel_rfl) (by kernel_rfl) ?_;refine ai ?_;refine ax [] (eG) ?_;exact ar
 rw [if_neg h9] at hlen |-
 have g9:(kd==9)=false:=by simpa using h9
 by_cases kU:kd=10
 ·subst kU
  have f13:((10:Int)==13)=false:=by decide
  have f7:((10:Int)==7)=false:=by decide
  have f8:((10:Int)==8)=false:=by decide
  have f9:((10:Int)==9)=false:=by decide
  have f10:((10:Int)==10)=true:=by decide
  rw [if_pos rfl] at hlen |-;have fb:=ng 2 (.inr ⟨rfl,.inr rfl⟩)
  ·skip
   obtain ⟨a,b,ha⟩:∃ a b,t.kids=[a,b]:=by
    match hl:t.kids,fb with
    | [a,b],_=>exact ⟨a,b,rfl⟩
   have h0:=eH 0 a (by rw [ha];rfl)
   have gD:(bS [a,b])[1]?=some [uT b]:=by rw [ke];rfl
   have EJ:(bS [a,b]).length=2:=by rw [qB];rfl
   have sJ:(((bS [a,b]).length:Int)==3)=false:=by rw [EJ];decide
   rw [ha] at hlen |-;rw [ha] at h0;simp only [List.map_cons,map_nil,getD_cons_zero,getD_cons_succ,length_append,length_cons,length_nil] at hlen |-;have yZ:=dH b (by rw [ha];simp) (by omega);generalize tx a=x at *;generalize mG tx inl d b=y at *;clear dH eH ih;generalize bS [a,b]=rows at *;refine cM Tryz.func165 Tryz.ntmps165 ?_;refine gP ?_;refine GL.wk (Wk.freeze (i:=0) rfl rfl rfl (Nat.zero_le _)) ?_;refine GL.wk (Wk.freeze (i:=1) rfl rfl rfl (Nat.zero_le _)) ?_;refine GN (by simp only [mx,lS];rfl) ?_;refine ab ?_;refine GW.draw (.q 0 (.q 4 (.q 5 (.q 6 (.q 7 (.q 8 (.q 9 (.q 10 (.q 11 (.a 1 (.q 2 (.q 3 (.a 12 (.q 13 (.q 14 .nil))))))))))))))) (by kernel_rfl) (by kernel_rfl) ?_;refine ai ?_;refine nC [] (h0) ?_;refine ai ?_;refine ax [] (yZ) ?_;exact ar
 rw [if_neg kU] at hlen |-
 have g10:(kd==10)=false:=by simpa using kU
 by_cases oe:kd=11
 ·subst oe
  have f13:((11:Int)==13)=false:=by decide
  have f7:((11:Int)==7)=false:=by decide
  have f8:((11:Int)==8)=false:=by decide
  have f9:((11:Int)==9)=false:=by decide
  have f10:((11:Int)==10)=false:=by decide
  have f11:((11:Int)==11)=true:=by decide
  rw [if_pos rfl] at hlen |-;have fb:=ng 1 (.inl ⟨rfl,.inr (.inr (.inl rfl))⟩)
  obtain ⟨a,ha⟩:∃ a,t.kids=[a]:=by
   match hl:t.kids,fb with
   | [a],_=>exact ⟨a,rfl⟩
  have h0:=eH 0 a (by rw [ha];rfl);rw [ha] at hlen |-;rw [ha] at h0;simp only [List.map_cons,map_nil,getD_cons_zero,length_append,length_cons,length_nil] at hlen |-;generalize tx a=x at *;generalize bS [a]=rows at *;refine cM Tryz.func165 Tryz.ntmps165 ?_;refine gP ?_;refine GL.wk (Wk.freeze (i:=0) rfl rfl rfl (Nat.zero_le _)) ?_;refine GL.wk (Wk.freeze (i:=1) rfl rfl rfl (Nat.zero_le _)) ?_;refine GN (by simp only [mx,lS];rfl) ?_;refine ab ?_;refine nB [] (h0) ?_;exact ar
 rw [if_neg oe] at hlen |-
 have g11:(kd==11)=false:=by simpa using oe
 by_cases nQ:kd=12
 ·subst nQ
  have f13:((12:Int)==13)=false:=by decide
  have f7:((12:Int)==7)=false:=by decide
  have f8:((12:Int)==8)=false:=by decide
  have f9:((12:Int)==9)=false:=by decide
  have f10:((12:Int)==10)=false:=by decide
  have f11:((12:Int)==11)=false:=by decide
  have f12:((12:Int)==12)=true:=by decide
  rw [if_pos rfl] at hlen |-;have fb:=ng 1 (.inl ⟨rfl,.inr (.inr (.inr rfl))⟩)
  obtain ⟨a,ha⟩:∃ a,t.kids=[a]:=by
   match hl:t.kids,fb with
   | [a],_=>exact ⟨a,rfl⟩
  have h0:=eH 0 a (by rw [ha];rfl);rw [ha] at hlen |-;rw [ha] at h0;simp only [List.map_cons,map_nil,getD_cons_zero,length_append,length_cons,length_nil] at hlen |-;generalize tx a=x at *;generalize bS [a]=rows at *;refine cM Tryz.func165 Tryz.ntmps165 ?_;refine gP ?_;refine GL.wk (Wk.freeze (i:=0) rfl rfl rfl (Nat.zero_le _)) ?_;refine GL.wk (Wk.freeze (i:=1) rfl rfl rfl (Nat.zero_le _)) ?_;refine GN (by simp only [mx,lS];rfl) ?_;refine ab ?_;refine nB [] (h0) ?_;exact ar
 rw [if_neg nQ] at hlen |-
 have g12:(kd==12)=false:=by simpa using nQ
 clear dH eH ih;generalize tx t=x at *;refine cM Tryz.func165 Tryz.ntmps165 ?_;refine gP ?_;refine GL.wk (Wk.freeze (i:=0) rfl rfl rfl (Nat.zero_le _)) ?_;refine GL.wk (Wk.freeze (i:=1) rfl rfl rfl (Nat.zero_le _)) ?_;refine GN (by simp only [mx,lS];rfl) ?_;refine ab ?_;refine iw [] (gw) ?_;exact ar
end Go.Xg
namespace Go.Xg
open Go.RowKit Go.Xw Go.Proofs
open Go.Xp (Tok Nd T Ar levels cn bx aB aw)
open Go.Sp (Src)
open Go.Im
attribute [local irreducible] GW GL GO YG GC GA aQ aR
theorem Og (ex bk:FuncId) [he:az Tryz.prog ex] [hb:az Tryz.prog bk] (tx:T->ae) (inl:List ae->Nat->ae) (W:Wr ex bk tx inl) (p:Src) (trees:List T) (hlen:(mA tx inl p trees).length<=1099511627776) (hft:p.fns.length=trees.length)
  (hg:p.globals.length<=1099511627776) (ha:p.arrays.length<=1099511627776) (hf:p.fns.length<=1099511627776) (jg:∀ a∈p.arrays,-9223372036854775808<=a.size/\a.size<=9223372036854775807) (CV:∀ f∈p.fns,f.params.length<=1099511627776)
  (ht:∀ t∈trees,fQ t=true/\oH t/\jx t<=1099511627776/\aB t+1<=1099511627776) :
  GF Tryz.prog 110 [.agg (ak p),.sl 1 (bS trees),.v (iy ex),.v (iy bk)] [] (.v (sv (mA tx inl p trees))) []:=by
 have VU:(p.globals.map fun s=>[GV.v (sv s)]).length=p.globals.length:=by simp
 have kp:(p.arrays.map ay).length=p.arrays.length:=by simp
 have VT:(p.fns.map aq).length=p.fns.length:=by simp
 have l2:=BI (f1 tx inl) (p.fns.zip trees) (dd a1 (dd g1 [] p.globals) p.arrays);have l1:=BI a1 p.arrays (dd g1 [] p.globals);unfold mA at hlen |-;refine ah Tryz.func110 Tryz.ntmps110 ?_;refine GW.wk (Wk.B9 (t:=9) (a:=none) (c:=0) 5 1 rfl) ?_;refine GW.range (p.globals.map fun s=>[GV.v (sv s)]).length (fun k fr Γ=>∃ acc m rows,fr=[.any,.sl 1 (bS trees),.v (iy ex),.v (iy bk),.loc 0 0,.any,.any,.any,.any,.vec 1 m,.any,.any,.any,.any,.any,.any,.any,.any,strs p.globals,.v (ii ((p.globals.map fun s=>[GV.v (sv s)]).length:Int)),.v (ii (k:Nat)),.any,.any,.any,.any,.any,.any,.any,.any,.any,.any,.any,.any,.any,.any,.any,.any,.any,.any,.any,.any,.any,.any,.any,.any,.any,.any,.any,.any,.any,.any,.any,.any,.any,.any,.any,.any,.any,.any,.any,.any,.any,.any,.any,.any,.any,.any,.any,.any,.any,.any,.any,.any,.any,.any,.any,.any,.any,.any,.any,.any,.any]/\Γ=[.box 34 (ak p),.vec 5 1 0 rows]/\rows.length=m/\rows=bY acc/\acc=dd g1 [] (p.globals.take k)) ?_ (by omega) ?_ ?_ ?_
 ·exact ⟨_,_,Wk.av aj,[],0,[],rfl,rfl,rfl,rfl,rfl⟩
 ·rintro k _ _ ⟨acc,m,rows,rfl,rfl,_⟩;exact ⟨rfl,rfl,rfl⟩
 ·rintro k _ _ ao ⟨acc,m,rows,rfl,rfl,hm,bj,kO⟩;rw [VU] at ao
  have cH:p.globals[k]?=some p.globals[k]:=by simp [ao]
  have AP:(p.globals.map fun s=>[GV.v (sv s)])[k]?=some [.v (sv p.globals[k])]:=by rw [getElem?_map,cH];rfl
  have bm:dd g1 [] (p.globals.take (k+1))=acc++g1 p.globals[k]:=by rw [take_add_one,cH,kO];exact xc g1 _ _ _
  have hle:=xd g1 p.globals (k+1) [];rw [bm,length_append] at hle
  have VV:rows.length=acc.length:=by rw [bj];simp [bY]
  generalize p.globals[k]=z at *
  have hz:(g1 z).length=z.length+6:=by unfold g1;simp
  refine ab ?_;refine GL.BA (str:=g1 z) rfl rfl rfl (by first | rfl | assumption) rfl (by omega) ?_;refine cS ?_;refine ab ?_;exact ⟨rfl,rfl,_,_,Wk.av aj,acc++g1 z,_,_,rfl,rfl,by rw [length_append,hm];simp [bY],by rw [bj];exact (tJ acc (g1 z)).symm,bm.symm⟩
 ·rintro _ _ ⟨acc,m,rows,rfl,rfl,hm,bj,kO⟩;rw [VU,take_length] at kO;rw [<-kO] at hlen l1 l2 |-;refine aJ ?_;refine ab ?_;refine GW.range (p.arrays.map ay).length (fun k fr Γ=>∃ qg m rows,fr=[.any,.sl 1 (bS trees),.v (iy ex),.v (iy bk),.loc 0 0,.any,.any,.any,.any,.vec 1 m,.any,.any,.any,.any,.any,.any,.any,.any,.any,.any,.any,.any,.any,.any,.any,.any,.any,.any,.any,.any,.any,.sl 2 (p.arrays.map ay),.v (ii ((p.arrays.map ay).length:Int)),.v (ii (k:Nat)),.any,.any,.any,.any,.any,.any,.any,.any,.any,.any,.any,.any,.any,.any,.any,.any,.any,.any,.any,.any,.any,.any,.any,.any,.any,.any,.any,.any,.any,.any,.any,.any,.any,.any,.any,.any,.any,.any,.any,.any,.any,.any,.any,.any,.any,.any,.any,.any]/\Γ=[.box 34 (ak p),.vec 5 1 0 rows]/\rows.length=m/\rows=bY qg/\qg=dd a1 acc (p.arrays.take k)) ?_ (by omega) ?_ ?_ ?_
  ·exact ⟨_,_,Wk.av aj,acc,m,rows,rfl,rfl,hm,bj,rfl⟩
  ·rintro k _ _ ⟨qg,m,rows,rfl,rfl,_⟩;exact ⟨rfl,rfl,rfl⟩
  ·clear hm bj;rintro k _ _ ao ⟨qg,m,rows,rfl,rfl,hm,bj,DB⟩;rw [kp] at ao
   have cH:p.arrays[k]?=some p.arrays[k]:=by simp [ao]
   have AP:(p.arrays.map ay)[k]?=some (ay p.arrays[k]):=by rw [getElem?_map,cH];rfl
   have bm:dd a1 acc (p.arrays.take (k+1))=qg++a1 p.arrays[k]:=by rw [take_add_one,cH,DB];exact xc a1 _ _ _
   have hle:=xd a1 p.arrays (k+1) acc;rw [bm,length_append] at hle
   have VV:rows.length=qg.length:=by rw [bj];simp [bY]
   have xE:=jg p.arrays[k] (getElem_mem ao);generalize p.arrays[k]=z at *;have hit:=Kf z.size xE.1 xE.2;have u7:=xH xE
   have hz:(a1 z).length=z.name.length+(nK z.size).length+8:=by unfold a1;simp;omega
   unfold ay at AP;refine ab ?_;refine GW.draw (.q 0 (.q 1 (.q 2 (.q 3 (.q 4 (.q 5 (.q 6 (.a 7 (.q 8 (.q 9 (.a 10 (.q 11 .nil)))))))))))) (by kernel_rfl) (by kernel_rfl) ?_;refine ai ?_;refine ax [] (hit) ?_;refine OA rfl rfl (GL.BA (str:=a1 z) rfl rfl rfl (by first | rfl | assumption) rfl (by omega) (GL.nil (aJ (eD.mk (by repeat (first | exact iM.n | (apply iM.w;(· decide +kernel)) | (apply iM.y;(· first | (apply YQ.t;(· exact rfl);(· exact rfl);(· (first | (apply K.ld;first | exact YG.xN rfl rfl (by first | rfl | assumption) | exact YG.sR rfl rfl rfl rfl | exact YG.ldV rfl rfl (by first | rfl | assumption) (by first | rfl | assumption) (by first | rfl | assumption) | exact YG.xM rfl rfl (by first | rfl | assumption) (by first | rfl | assumption) (by first | rfl | assumption)) | (apply K.idx;first | exact YG.idxV rfl rfl rfl (by first | rfl | assumption) (by omega) | exact YG.bs 0 rfl rfl rfl (by first | omega | assumption | (simp only [length_append,length_cons,length_nil];omega)) | exact YG.bs 1 rfl rfl rfl (by first | omega | assumption | (simp only [length_append,length_cons,length_nil];omega)) | exact YG.bs 2 rfl rfl rfl (by first | omega | assumption | (simp only [length_append,length_cons,length_nil];omega)) | exact YG.bs 3 rfl rfl rfl (by first | omega | assumption | (simp only [length_append,length_cons,length_nil];omega)) | exact YG.bs 4 rfl rfl rfl (by first | omega | assumption | (simp only [length_append,length_cons,length_nil];omega)) | exact YG.bs 5 rfl rfl rfl (by first | omega | assumption | (simp only [length_append,length_cons,length_nil];omega)) | exact YG.bs 6 rfl rfl rfl (by first | omega | assumption | (simp only [length_append,length_cons,length_nil];omega))) | (apply K.pj;first | exact YG.fldV rfl rfl (by first | rfl | assumption) | exact YG.sA rfl rfl (by first | rfl | assumption)) | exact YG.ry 1 rfl rfl (by first | rfl | assumption) (by first | rfl | assumption) | exact YG.mv | exact YG.tH | (apply K.bin;first | exact YG.go rfl | exact YG.o9 rfl rfl (by omega) | exact YG.pe rfl rfl | exact YG.pI rfl rfl | exact YG.uS rfl rfl | exact YG.vk rfl rfl | exact YG.cat rfl rfl (by omega) | exact YG.cat rfl rfl (by simp only [length_append,length_cons,length_nil];omega) | exact YG.qh rfl rfl (by omega) | exact YG.add rfl rfl (by omega) | exact YG.sub rfl rfl (by omega) | exact YG.mul rfl rfl (by omega) | exact YG.tq rfl rfl (by omega) | exact YG.quo rfl rfl (by omega) | exact YG.rem rfl rfl (by omega) | exact YG.nL rfl rfl) | (apply K.pj;first | exact YG.sB rfl | exact YG.sy rfl) | (apply K.ld;first | exact YG.xL rfl (by first | rfl | assumption) | exact YG.sQ rfl rfl rfl) | (apply K.len;first | exact YG.pG rfl | exact YG.qt rfl | exact YG.sS rfl | exact YG.sT rfl | exact YG.lenA rfl) | (apply K.xR;first | exact YG.sY rfl | exact YG.sX rfl) | (apply K.pick;first | exact YG.vr rfl (by first | rfl | assumption) | exact YG.vq rfl (by first | rfl | assumption)) | (apply K.idx;first | exact YG.oA rfl rfl (by assumption) | exact YG.fy rfl rfl (by assumption) rfl | exact YG.fy rfl rfl (by assumption) (by omega) | exact YG.qp rfl rfl (by omega)) | exact YG.ext rfl rfl | exact YG.go rfl | (apply K.xY;first | exact YG.tl rfl rfl rfl (by omega) | exact YG.tj rfl rfl (by omega) | exact YG.th rfl rfl (by omega) | exact YG.nu 1 rfl rfl rfl (by first | rfl | assumption)) | exact YG.qs rfl rfl (by assumption) | exact YG.idxSC rfl rfl (by assumption) rfl | (apply K.jn;first | exact YG.mkfn0 | exact YG.jn) | exact YG.build rfl | exact YG.neg rfl (by omega) | exact YG.qk rfl rfl | exact YG.xf rfl (by first | rfl | exact IntWalk.i64_in _ (by omega) | exact IntWalk.u8_in _ (by omega) | assumption) | exact YG.str rfl (by first | rfl | assumption)))) | (apply YQ.t;(· exact rfl);(· apply BR;(· exact rfl);(· first | exact rfl | assumption));(· (first | (apply K.ld;first | exact YG.xN rfl rfl (by first | rfl | assumption) | exact YG.sR rfl rfl rfl rfl | exact YG.ldV rfl rfl (by first | rfl | assumption) (by first | rfl | assumption) (by first | rfl | assumption) | exact YG.xM rfl rfl (by first | rfl | assumption) (by first | rfl | assumption) (by first | rfl | assumption)) | (apply K.idx;first | exact YG.idxV rfl rfl rfl (by first | rfl | assumption) (by omega) | exact YG.bs 0 rfl rfl rfl (by first | omega | assumption | (simp only [length_append,length_cons,length_nil];omega)) | exact YG.bs 1 rfl rfl rfl (by first | omega | assumption | (simp only [length_append,length_cons,length_nil];omega)) | exact YG.bs 2 rfl rfl rfl (by first | omega | assumption | (simp only [length_append,length_cons,length_nil];omega)) | exact YG.bs 3 rfl rfl rfl (by first | omega | assumption | (simp only [length_append,length_cons,length_nil];omega)) | exact YG.bs 4 rfl rfl rfl (by first | omega | assumption | (simp only [length_append,length_cons,length_nil];omega)) | exact YG.bs 5 rfl rfl rfl (by first | omega | assumption | (simp only [length_append,length_cons,length_nil];omega)) | exact YG.bs 6 rfl rfl rfl (by first | omega | assumption | (simp only [length_append,length_cons,length_nil];omega))) | (apply K.pj;first | exact YG.fldV rfl rfl (by first | rfl | assumption) | exact YG.sA rfl rfl (by first | rfl | assumption)) | exact YG.ry 1 rfl rfl (by first | rfl | assumption) (by first | rfl | assumption) | exact YG.mv | exact YG.tH | (apply K.bin;first | exact YG.go rfl | exact YG.o9 rfl rfl (by omega) | exact YG.pe rfl rfl | exact YG.pI rfl rfl | exact YG.uS rfl rfl | exact YG.vk rfl rfl | exact YG.cat rfl rfl (by omega) | exact YG.cat rfl rfl (by simp only [length_append,length_cons,length_nil];omega) | exact YG.qh rfl rfl (by omega) | exact YG.add rfl rfl (by omega) | exact YG.sub rfl rfl (by omega) | exact YG.mul rfl rfl (by omega) | exact YG.tq rfl rfl (by omega) | exact YG.quo rfl rfl (by omega) | exact YG.rem rfl rfl (by omega) | exact YG.nL rfl rfl) | (apply K.pj;first | exact YG.sB rfl | exact YG.sy rfl) | (apply K.ld;first | exact YG.xL rfl (by first | rfl | assumption) | exact YG.sQ rfl rfl rfl) | (apply K.len;first | exact YG.pG rfl | exact YG.qt rfl | exact YG.sS rfl | exact YG.sT rfl | exact YG.lenA rfl) | (apply K.xR;first | exact YG.sY rfl | exact YG.sX rfl) | (apply K.pick;first | exact YG.vr rfl (by first | rfl | assumption) | exact YG.vq rfl (by first | rfl | assumption)) | (apply K.idx;first | exact YG.oA rfl rfl (by assumption) | exact YG.fy rfl rfl (by assumption) rfl | exact YG.fy rfl rfl (by assumption) (by omega) | exact YG.qp rfl rfl (by omega)) | exact YG.ext rfl rfl | exact YG.go rfl | (apply K.xY;first | exact YG.tl rfl rfl rfl (by omega) | exact YG.tj rfl rfl (by omega) | exact YG.th rfl rfl (by omega) | exact YG.nu 1 rfl rfl rfl (by first | rfl | assumption)) | exact YG.qs rfl rfl (by assumption) | exact YG.idxSC rfl rfl (by assumption) rfl | (apply K.jn;first | exact YG.mkfn0 | exact YG.jn) | exact YG.build rfl | exact YG.neg rfl (by omega) | exact YG.qk rfl rfl | exact YG.xf rfl (by first | rfl | exact IntWalk.i64_in _ (by omega) | exact IntWalk.u8_in _ (by omega) | assumption) | exact YG.str rfl (by first | rfl | assumption)))) | (apply YQ.f;(· exact rfl);(· apply Ee;(· exact rfl);(· first | exact rfl | assumption))))))) ?_))))
   refine MZ ?_;refine ai ?_;refine ab ?_;exact ⟨rfl,rfl,_,_,(Wk.cut (n:=2) (Nat.zero_le _) rfl).trans (Wk.av aj),qg++a1 z,_,_,rfl,rfl,by rw [length_append,hm];simp [bY],by rw [bj];exact (tJ qg (a1 z)).symm,bm.symm⟩
  ·clear hm bj;rintro _ _ ⟨qg,m,rows,rfl,rfl,hm,bj,DB⟩;rw [kp,take_length] at DB;rw [<-DB] at hlen l2 |-
   have nj:∀ (k:Nat) (f:Go.Sp.Fn),p.fns[k]?=some f->f.params.length<=1099511627776:=fun k f h=>CV f (mem_of_getElem? h)
   refine aJ ?_;refine ab ?_;refine GW.range (p.fns.map aq).length (fun k fr Γ=>∃ uj m rows,fr=[.any,.sl 1 (bS trees),.any,.any,.any,.any,.any,.any,.any,.vec 1 m,.any,.any,.any,.any,.loc 2 0,.any,.any,.any,.any,.any,.any,.any,.any,.any,.any,.any,.any,.any,.any,.any,.any,.any,.any,.any,.any,.any,.any,.any,.any,.any,.any,.any,.any,.any,.any,.any,.any,.any,.any,.any,.any,.any,.any,.sl 3 (p.fns.map aq),.v (ii ((p.fns.map aq).length:Int)),.v (ii (k:Nat)),.any,.any,.any,.any,.any,.any,.any,.any,.any,.any,.any,.any,.any,.any,.any,.any,.any,.any,.any,.any,.any,.any,.any,.any,.any,.any]/\Γ=[.box 34 (ak p),.vec 5 1 0 rows,.box 151 [.v (iy ex),.v (iy bk)]]/\rows.length=m/\rows=bY uj/\uj=dd (f1 tx inl) qg ((p.fns.zip trees).take k)) ?_ (by omega) ?_ ?_ ?_
   ·exact ⟨_,_,Wk.av aj,qg,m,rows,rfl,rfl,hm,bj,rfl⟩
   ·rintro k _ _ ⟨uj,m,rows,rfl,rfl,_⟩;exact ⟨rfl,rfl,rfl⟩
   ·clear hm bj;rintro k _ _ ao ⟨uj,m,rows,rfl,rfl,hm,bj,DC⟩;rw [VT] at ao
    have my:k < trees.length:=by omega
    have cH:p.fns[k]?=some p.fns[k]:=by simp [ao]
    have wT:trees[k]?=some trees[k]:=by simp [my]
    have AP:(p.fns.map aq)[k]?=some (aq p.fns[k]):=by rw [getElem?_map,cH];rfl
    have ZO:=vw wT
    have YC:(p.fns.zip trees)[k]?=some (p.fns[k],trees[k]):=by rw [List.getElem?_zip_eq_some];exact ⟨cH,wT⟩
    have bm:dd (f1 tx inl) qg ((p.fns.zip trees).take (k+1))=uj++f1 tx inl (p.fns[k],trees[k]):=by rw [take_add_one,YC,DC];exact xc (f1 tx inl) _ _ _
    have hle:=xd (f1 tx inl) (p.fns.zip trees) (k+1) qg;rw [bm,length_append] at hle
    have VV:rows.length=uj.length:=by rw [bj];simp [bY]
    obtain ⟨q1,q2,q3,q4⟩:=ht trees[k] (getElem_mem my);have YR:=nj k _ cH;generalize p.fns[k]=f at *;generalize trees[k]=t at *
    have hz:(f1 tx inl (f,t)).length=f.name.length+(bx f.params).length+(mG tx inl 0 t).length+9:=by unfold f1;simp;omega
    have hJ:=Kg f.params (by omega) YR
    have Ji:∀ (l:List T) (a:T),a∈l->aB a<=aw l:=by
     intro l
     induction l with
     | nil=>intro a h;cases h
     | cons b l ih2 =>
      intro a h;rw [aw]
      rcases List.mem_cons.1 h with rfl | h
      ·omega
      ·have:=ih2 a h;omega
    have hB:=yS ex bk tx inl W t 0 (by omega) (by have:=Go.Xp.cR t.kids;have:=Go.Xp.eo t;omega) (by omega) fun a Ls SW=>by
     have h1:=Ji _ a Ls;have h2:=Go.Xp.eo t;have h3:=tA Ls;have h4:=oy t;rw [xI,Bool.and_eq_true,sO,all_eq_true] at q1;rw [qy] at q2;exact GR ex bk tx inl W _ a (Nat.le_refl _) (q1.2 a Ls) (jw q2.2 Ls) (by omega) (0+1) (by omega) SW
    unfold aq at AP;refine ab ?_;refine GW.draw (.q 0 (.q 1 (.q 2 (.q 3 (.q 4 (.q 5 (.q 6 (.q 10 (.q 11 (.q 12 (.q 13 (.q 14 (.a 7 (.q 8 (.q 9 (.a 15 (.q 16 (.q 17 (.a 18 (.q 19 .nil)))))))))))))))))))) (by kernel_rfl) (by kernel_rfl) ?_;refine ai ?_;refine ax [] (hJ) ?_;refine ax [] (hB) ?_;refine OA rfl rfl (GL.BA (str:=f1 tx inl (f,t)) rfl rfl rfl (by first | rfl | assumption) rfl (by omega) (GL.nil (aJ (eD.mk (by repeat (first | exact iM.n | (apply iM.w;(· decide +kernel)) | (apply iM.y;(· first | (apply YQ.t;(· exact rfl);(· exact rfl);(· (first | (apply K.ld;first | exact YG.xN rfl rfl (by first | rfl | assumption) | exact YG.sR rfl rfl rfl rfl | exact YG.ldV rfl rfl (by first | rfl | assumption) (by first | rfl | assumption) (by first | rfl | assumption) | exact YG.xM rfl rfl (by first | rfl | assumption) (by first | rfl | assumption) (by first | rfl | assumption)) | (apply K.idx;first | exact YG.idxV rfl rfl rfl (by first | rfl | assumption) (by omega) | exact YG.bs 0 rfl rfl rfl (by first | omega | assumption | (simp only [length_append,length_cons,length_nil];omega)) | exact YG.bs 1 rfl rfl rfl (by first | omega | assumption | (simp only [length_append,length_cons,length_nil];omega)) | exact YG.bs 2 rfl rfl rfl (by first | omega | assumption | (simp only [length_append,length_cons,length_nil];omega)) | exact YG.bs 3 rfl rfl rfl (by first | omega | assumption | (simp only [length_append,length_cons,length_nil];omega)) | exact YG.bs 4 rfl rfl rfl (by first | omega | assumption | (simp only [length_append,length_cons,length_nil];omega)) | exact YG.bs 5 rfl rfl rfl (by first | omega | assumption | (simp only [length_append,length_cons,length_nil];omega)) | exact YG.bs 6 rfl rfl rfl (by first | omega | assumption | (simp only [length_append,length_cons,length_nil];omega))) | (apply K.pj;first | exact YG.fldV rfl rfl (by first | rfl | assumption) | exact YG.sA rfl rfl (by first | rfl | assumption)) | exact YG.ry 1 rfl rfl (by first | rfl | assumption) (by first | rfl | assumption) | exact YG.mv | exact YG.tH | (apply K.bin;first | exact YG.go rfl | exact YG.o9 rfl rfl (by omega) | exact YG.pe rfl rfl | exact YG.pI rfl rfl | exact YG.uS rfl rfl | exact YG.vk rfl rfl | exact YG.cat rfl rfl (by omega) | exact YG.cat rfl rfl (by simp only [length_append,length_cons,length_nil];omega) | exact YG.qh rfl rfl (by omega) | exact YG.add rfl rfl (by omega) | exact YG.sub rfl rfl (by omega) | exact YG.mul rfl rfl (by omega) | exact YG.tq rfl rfl (by omega) | exact YG.quo rfl rfl (by omega) | exact YG.rem rfl rfl (by omega) | exact YG.nL rfl rfl) | (apply K.pj;first | exact YG.sB rfl | exact YG.sy rfl) | (apply K.ld;first | exact YG.xL rfl (by first | rfl | assumption) | exact YG.sQ rfl rfl rfl) | (apply K.len;first | exact YG.pG rfl | exact YG.qt rfl | exact YG.sS rfl | exact YG.sT rfl | exact YG.lenA rfl) | (apply K.xR;first | exact YG.sY rfl | exact YG.sX rfl) | (apply K.pick;first | exact YG.vr rfl (by first | rfl | assumption) | exact YG.vq rfl (by first | rfl | assumption)) | (apply K.idx;first | exact YG.oA rfl rfl (by assumption) | exact YG.fy rfl rfl (by assumption) rfl | exact YG.fy rfl rfl (by assumption) (by omega) | exact YG.qp rfl rfl (by omega)) | exact YG.ext rfl rfl | exact YG.go rfl | (apply K.xY;first | exact YG.tl rfl rfl rfl (by omega) | exact YG.tj rfl rfl (by omega) | exact YG.th rfl rfl (by omega) | exact YG.nu 1 rfl rfl rfl (by first | rfl | assumption)) | exact YG.qs rfl rfl (by assumption) | exact YG.idxSC rfl rfl (by assumption) rfl | (apply K.jn;first | exact YG.mkfn0 | exact YG.jn) | exact YG.build rfl | exact YG.neg rfl (by omega) | exact YG.qk rfl rfl | exact YG.xf rfl (by first | rfl | exact IntWalk.i64_in _ (by omega) | exact IntWalk.u8_in _ (by omega) | assumption) | exact YG.str rfl (by first | rfl | assumption)))) | (apply YQ.t;(· exact rfl);(· apply BR;(· exact rfl);(· first | exact rfl | assumption));(· (first | (apply K.ld;first | exact YG.xN rfl rfl (by first | rfl | assumption) | exact YG.sR rfl rfl rfl rfl | exact YG.ldV rfl rfl (by first | rfl | assumption) (by first | rfl | assumption) (by first | rfl | assumption) | exact YG.xM rfl rfl (by first | rfl | assumption) (by first | rfl | assumption) (by first | rfl | assumption)) | (apply K.idx;first | exact YG.idxV rfl rfl rfl (by first | rfl | assumption) (by omega) | exact YG.bs 0 rfl rfl rfl (by first | omega | assumption | (simp only [length_append,length_cons,length_nil];omega)) | exact YG.bs 1 rfl rfl rfl (by first | omega | assumption | (simp only [length_append,length_cons,length_nil];omega)) | exact YG.bs 2 rfl rfl rfl (by first | omega | assumption | (simp only [length_append,length_cons,length_nil];omega)) | exact YG.bs 3 rfl rfl rfl (by first | omega | assumption | (simp only [length_append,length_cons,length_nil];omega)) | exact YG.bs 4 rfl rfl rfl (by first | omega | assumption | (simp only [length_append,length_cons,length_nil];omega)) | exact YG.bs 5 rfl rfl rfl (by first | omega | assumption | (simp only [length_append,length_cons,length_nil];omega)) | exact YG.bs 6 rfl rfl rfl (by first | omega | assumption | (simp only [length_append,length_cons,length_nil];omega))) | (apply K.pj;first | exact YG.fldV rfl rfl (by first | rfl | assumption) | exact YG.sA rfl rfl (by first | rfl | assumption)) | exact YG.ry 1 rfl rfl (by first | rfl | assumption) (by first | rfl | assumption) | exact YG.mv | exact YG.tH | (apply K.bin;first | exact YG.go rfl | exact YG.o9 rfl rfl (by omega) | exact YG.pe rfl rfl | exact YG.pI rfl rfl | exact YG.uS rfl rfl | exact YG.vk rfl rfl | exact YG.cat rfl rfl (by omega) | exact YG.cat rfl rfl (by simp only [length_append,length_cons,length_nil];omega) | exact YG.qh rfl rfl (by omega) | exact YG.add rfl rfl (by omega) | exact YG.sub rfl rfl (by omega) | exact YG.mul rfl rfl (by omega) | exact YG.tq rfl rfl (by omega) | exact YG.quo rfl rfl (by omega) | exact YG.rem rfl rfl (by omega) | exact YG.nL rfl rfl) | (apply K.pj;first | exact YG.sB rfl | exact YG.sy rfl) | (apply K.ld;first | exact YG.xL rfl (by first | rfl | assumption) | exact YG.sQ rfl rfl rfl) | (apply K.len;first | exact YG.pG rfl | exact YG.qt rfl | exact YG.sS rfl | exact YG.sT rfl | exact YG.lenA rfl) | (apply K.xR;first | exact YG.sY rfl | exact YG.sX rfl) | (apply K.pick;first | exact YG.vr rfl (by first | rfl | assumption) | exact YG.vq rfl (by first | rfl | assumption)) | (apply K.idx;first | exact YG.oA rfl rfl (by assumption) | exact YG.fy rfl rfl (by assumption) rfl | exact YG.fy rfl rfl (by assumption) (by omega) | exact YG.qp rfl rfl (by omega)) | exact YG.ext rfl rfl | exact YG.go rfl | (apply K.xY;first | exact YG.tl rfl rfl rfl (by omega) | exact YG.tj rfl rfl (by omega) | exact YG.th rfl rfl (by omega) | exact YG.nu 1 rfl rfl rfl (by first | rfl | assumption)) | exact YG.qs rfl rfl (by assumption) | exact YG.idxSC rfl rfl (by assumption) rfl | (apply K.jn;first | exact YG.mkfn0 | exact YG.jn) | exact YG.build rfl | exact YG.neg rfl (by omega) | exact YG.qk rfl rfl | exact YG.xf rfl (by first | rfl | exact IntWalk.i64_in _ (by omega) | exact IntWalk.u8_in _ (by omega) | assumption) | exact YG.str rfl (by first | rfl | assumption)))) | (apply YQ.f;(· exact rfl);(· apply Ee;(· exact rfl);(· first | exact rfl | assumption))))))) ?_))))
    refine MZ ?_;refine ai ?_;refine ab ?_;exact ⟨rfl,rfl,_,_,(Wk.cut (n:=3) (Nat.zero_le _) rfl).trans (Wk.av aj),uj++f1 tx inl (f,t),_,_,rfl,rfl,by rw [length_append,hm];simp [bY],by rw [bj];exact (tJ uj _).symm,bm.symm⟩
   ·clear hm bj;rintro _ _ ⟨uj,m,rows,rfl,rfl,hm,bj,DC⟩;rw [VT,show (p.fns.zip trees).take p.fns.length=p.fns.zip trees from List.take_of_length_le (by simp;omega)] at DC;rw [<-DC] at hlen |-;refine aJ ?_;refine GW.wk (Wk.hY (t:=9) rfl rfl rfl hm) ?_
    have ZE:rows=uj.map fun c=>[.v (.int .u8 (c.toNat:Int))]:=bj
    exact ar
end Go.Xg
namespace Go.Xg
open Go.RowKit Go.Xw Go.Proofs
open Go.Im (eZ qV qW sw lF mZ)
attribute [local irreducible] GW GL GO YG GC GA aQ aR
theorem GX (a b:List ae) (ha:a.length<=1099511627776) (hb:b.length<=1099511627776):GF Tryz.prog 115 [strs a,strs b] [] (.v (.bool (eZ (fun x y=>x==y) a b))) []:=by
 have kp:(a.map fun s=>[GV.v (sv s)]).length=a.length:=by simp
 have pZ:(b.map fun s=>[GV.v (sv s)]).length=b.length:=by simp
 by_cases hl:a.length=b.length
 ·have hd:(((a.map fun s=>[GV.v (sv s)]).length:Int) != ((b.map fun s=>[GV.v (sv s)]).length:Int))=false:=by rw [kp,pZ,hl];simp
  refine ah Tryz.func115 Tryz.ntmps115 ?_;refine GW.range (a.map fun s=>[GV.v (sv s)]).length (fun k fr Γ=>fr=[strs a,strs b,.any,.any,.any,.any,.any,.any,.any,.any,.any,.any,.v (ii ((a.map fun s=>[GV.v (sv s)]).length:Int)),.v (ii (k:Nat)),.any,.any,.any,.any,.any,.any,.any,.any,.any,.any,.any,.any]/\Γ=[]/\sw (fun x y=>x==y) a b k) ?_ (by omega) ?_ ?_ ?_
  ·exact ⟨_,_,Wk.av aj,rfl,rfl,fun j x y h=>by omega⟩
  ·rintro k _ _ ⟨rfl,rfl,_⟩;exact ⟨rfl,rfl,rfl⟩
  ·rintro k _ _ ao ⟨rfl,rfl,kv⟩;rw [kp] at ao
   have mJ:a[k]?=some a[k]:=by simp [ao]
   have pA:k < b.length:=by omega
   have nf:b[k]?=some b[k]:=by simp [pA]
   have EH:(a.map fun s=>[GV.v (sv s)])[k]?=some [GV.v (sv a[k])]:=by rw [getElem?_map,mJ];rfl
   have EI:(b.map fun s=>[GV.v (sv s)])[k]?=some [GV.v (sv b[k])]:=by rw [getElem?_map,nf];rfl
   generalize a[k]=x at *;generalize b[k]=y at *
   cases jt:(x==y) with
   | true =>
    have hn:(x != y)=false:=by simp only [bne,jt];rfl
    have bH:(!(x==y))=false:=by rw [jt];rfl
    refine ab ?_;refine GW.draw (.q 0 (.q 1 (.q 2 (.q 3 (.q 4 (.q 5 (.q 6 (.q 7 (.q 8 .nil))))))))) (by kernel_rfl) (by kernel_rfl) ?_;refine ai ?_;refine ab ?_;exact ⟨rfl,rfl,_,_,Wk.av aj,rfl,rfl,lF mJ nf kv jt⟩
   | false =>
    have hn:(x != y)=true:=by simp only [bne,jt];rfl
    have bH:(!(x==y))=true:=by rw [jt];rfl
    rw [qW mJ nf (p:=fun x y=>x==y) jt];refine ab ?_;refine GW.draw (.q 0 (.q 1 (.q 2 (.q 3 (.q 4 (.q 5 (.q 6 (.q 7 (.q 8 .nil))))))))) (by kernel_rfl) (by kernel_rfl) ?_;refine ai ?_;exact ar
  ·rintro _ _ ⟨rfl,rfl,kv⟩;rw [kp] at kv;rw [mZ hl kv];exact ar
 ·have hd:(((a.map fun s=>[GV.v (sv s)]).length:Int) != ((b.map fun s=>[GV.v (sv s)]).length:Int))=true:=by rw [kp,pZ];simpa using by omega
  rw [qV hl];refine ah Tryz.func115 Tryz.ntmps115 ?_;exact al
theorem Qq (a b:List Int) (ha:a.length<=1099511627776) (hb:b.length<=1099511627776):GF Tryz.prog 147 [ints a,ints b] [] (.v (.bool (eZ (fun x y=>x==y) a b))) []:=by
 have kp:(a.map fun s=>[GV.v (ii s)]).length=a.length:=by simp
 have pZ:(b.map fun s=>[GV.v (ii s)]).length=b.length:=by simp
 by_cases hl:a.length=b.length
 ·have hd:(((a.map fun s=>[GV.v (ii s)]).length:Int) != ((b.map fun s=>[GV.v (ii s)]).length:Int))=false:=by rw [kp,pZ,hl];simp
  refine ah Tryz.func147 Tryz.ntmps147 ?_;refine GW.range (a.map fun s=>[GV.v (ii s)]).length (fun k fr Γ=>fr=[ints a,ints b,.any,.any,.any,.any,.any,.any,.any,.any,.any,.any,.v (ii ((a.map fun s=>[GV.v (ii s)]).length:Int)),.v (ii (k:Nat)),.any,.any,.any,.any,.any,.any,.any,.any,.any,.any,.any,.any]/\Γ=[]/\sw (fun x y=>x==y) a b k) ?_ (by omega) ?_ ?_ ?_
  ·exact ⟨_,_,Wk.av aj,rfl,rfl,fun j x y h=>by omega⟩
  ·rintro k _ _ ⟨rfl,rfl,_⟩;exact ⟨rfl,rfl,rfl⟩
  ·rintro k _ _ ao ⟨rfl,rfl,kv⟩;rw [kp] at ao
   have mJ:a[k]?=some a[k]:=by simp [ao]
   have pA:k < b.length:=by omega
   have nf:b[k]?=some b[k]:=by simp [pA]
   have EH:(a.map fun s=>[GV.v (ii s)])[k]?=some [GV.v (ii a[k])]:=by rw [getElem?_map,mJ];rfl
   have EI:(b.map fun s=>[GV.v (ii s)])[k]?=some [GV.v (ii b[k])]:=by rw [getElem?_map,nf];rfl
   generalize a[k]=x at *;generalize b[k]=y at *
   cases jt:(x==y) with
   | true =>
    have hn:(x != y)=false:=by simp only [bne,jt];rfl
    have bH:(!(x==y))=false:=by rw [jt];rfl
    refine ab ?_;refine GW.draw (.q 0 (.q 1 (.q 2 (.q 3 (.q 4 (.q 5 (.q 6 (.q 7 (.q 8 .nil))))))))) (by kernel_rfl) (by kernel_rfl) ?_;refine ai ?_;refine ab ?_;exact ⟨rfl,rfl,_,_,Wk.av aj,rfl,rfl,lF mJ nf kv jt⟩
   | false =>
    have hn:(x != y)=true:=by simp only [bne,jt];rfl
    have bH:(!(x==y))=true:=by rw [jt];rfl
    rw [qW mJ nf (p:=fun x y=>x==y) jt];refine ab ?_;refine GW.draw (.q 0 (.q 1 (.q 2 (.q 3 (.q 4 (.q 5 (.q 6 (.q 7 (.q 8 .nil))))))))) (by kernel_rfl) (by kernel_rfl) ?_;refine ai ?_;exact ar
  ·rintro _ _ ⟨rfl,rfl,kv⟩;rw [kp] at kv;rw [mZ hl kv];exact ar
 ·have hd:(((a.map fun s=>[GV.v (ii s)]).length:Int) != ((b.map fun s=>[GV.v (ii s)]).length:Int))=true:=by rw [kp,pZ];simpa using by omega
  rw [qV hl];refine ah Tryz.func147 Tryz.ntmps147 ?_;exact al
end Go.Xg
namespace Go.Xg
open Go.RowKit Go.Xw Go.Proofs
open Go.Xp (Nd)
open Go.Im (qN kz eZ qV qW sw lF mZ)
attribute [local irreducible] GW GL GO YG GC GA aQ aR
theorem OI (a b:Go.Sp.Fn) (ha:a.params.length<=1099511627776) (hb:b.params.length<=1099511627776):GF Tryz.prog 118 [.agg (aq a),.agg (aq b)] [] (.v (.bool (qN a b))) []:=by
 have he:=GX a.params b.params ha hb;unfold qN aq
 cases h1:(a.name==b.name) with
 | false =>
  refine ah Tryz.func118 Tryz.ntmps118 ?_;exact al
 | true =>
  cases h2:eZ (fun x y=>x==y) a.params b.params with
  | false =>
   rw [h2] at he;refine ah Tryz.func118 Tryz.ntmps118 ?_;refine U [] (he) ?_;exact al
  | true =>
   rw [h2] at he;refine ah Tryz.func118 Tryz.ntmps118 ?_;refine U [] (he) ?_;exact al
theorem JR (a b:Nd) (ha:a.kids.length<=1099511627776) (hb:b.kids.length<=1099511627776):GF Tryz.prog 120 [.agg (au a),.agg (au b)] [] (.v (.bool (kz a b))) []:=by
 have he:=Qq a.kids b.kids ha hb;unfold kz au;generalize eZ (fun x y=>x==y) a.kids b.kids=q at *
 cases h1:(a.kind==b.kind) with
 | false =>
  refine ah Tryz.func120 Tryz.ntmps120 ?_;exact al
 | true =>
  cases h2:(a.n==b.n) with
  | false =>
   refine ah Tryz.func120 Tryz.ntmps120 ?_;exact al
  | true =>
   cases h3:(a.s==b.s) with
   | false =>
    refine ah Tryz.func120 Tryz.ntmps120 ?_;exact al
   | true =>
    refine ah Tryz.func120 Tryz.ntmps120 ?_;refine U [] (he) ?_;exact al
theorem Ga (a b:List Go.Sp.Fn) (ha:a.length<=1099511627776) (hb:b.length<=1099511627776) (ka:∀ x∈a,x.params.length<=1099511627776) (kb:∀ x∈b,x.params.length<=1099511627776) :
  GF Tryz.prog 117 [.sl 3 (a.map aq),.sl 3 (b.map aq),.v (.func (.func 118) #[] #[])] [] (.v (.bool (eZ qN a b))) []:=by
 have kp:(a.map aq).length=a.length:=by simp
 have pZ:(b.map aq).length=b.length:=by simp
 by_cases hl:a.length=b.length
 ·have hd:(((a.map aq).length:Int) != ((b.map aq).length:Int))=false:=by rw [kp,pZ,hl];simp
  refine ah Tryz.func117 Tryz.ntmps117 ?_;refine GW.range (a.map aq).length (fun k fr Γ=>fr=[.any,.sl 3 (b.map aq),.v (.func (.func 118) #[] #[]),.any,.any,.any,.any,.any,.any,.any,.any,.any,.any,.any,.any,.sl 3 (a.map aq),.v (ii ((a.map aq).length:Int)),.v (ii (k:Nat)),.any,.any,.any,.any,.any,.any,.any,.any,.any,.any,.any,.any,.any,.any]/\Γ=[]/\sw qN a b k) ?_ (by omega) ?_ ?_ ?_
  ·exact ⟨_,_,Wk.av aj,rfl,rfl,fun j x y h=>by omega⟩
  ·rintro k _ _ ⟨rfl,rfl,_⟩;exact ⟨rfl,rfl,rfl⟩
  ·rintro k _ _ ao ⟨rfl,rfl,kv⟩;rw [kp] at ao
   have mJ:a[k]?=some a[k]:=by simp [ao]
   have pA:k < b.length:=by omega
   have nf:b[k]?=some b[k]:=by simp [pA]
   have EH:(a.map aq)[k]?=some (aq a[k]):=by rw [getElem?_map,mJ];rfl
   have EI:(b.map aq)[k]?=some (aq b[k]):=by rw [getElem?_map,nf];rfl
   have hs:=OI a[k] b[k] (ka _ (getElem_mem ao)) (kb _ (getElem_mem pA));generalize a[k]=x at *;generalize b[k]=y at *;unfold aq at EH EI hs
   cases jt:qN x y with
   | true =>
    rw [jt] at hs;refine ab ?_;refine iw [] (hs) ?_;refine ab ?_;exact ⟨rfl,rfl,_,_,(Wk.cut (n:=0) (Nat.le_refl _) rfl).trans (Wk.av aj),rfl,rfl,lF mJ nf kv jt⟩
   | false =>
    rw [jt] at hs;rw [qW mJ nf (p:=qN) jt];refine ab ?_;refine iw [] (hs) ?_;exact ar
  ·rintro _ _ ⟨rfl,rfl,kv⟩;rw [kp] at kv;rw [mZ hl kv];exact ar
 ·have hd:(((a.map aq).length:Int) != ((b.map aq).length:Int))=true:=by rw [kp,pZ];simpa using by omega
  rw [qV hl];refine ah Tryz.func117 Tryz.ntmps117 ?_;exact al
theorem Gb (a b:List Nd) (ha:a.length<=1099511627776) (hb:b.length<=1099511627776) (ka:∀ x∈a,x.kids.length<=1099511627776) (kb:∀ x∈b,x.kids.length<=1099511627776) :
  GF Tryz.prog 119 [.sl 5 (a.map au),.sl 5 (b.map au),.v (.func (.func 120) #[] #[])] [] (.v (.bool (eZ kz a b))) []:=by
 have kp:(a.map au).length=a.length:=by simp
 have pZ:(b.map au).length=b.length:=by simp
 by_cases hl:a.length=b.length
 ·have hd:(((a.map au).length:Int) != ((b.map au).length:Int))=false:=by rw [kp,pZ,hl];simp
  refine ah Tryz.func119 Tryz.ntmps119 ?_;refine GW.range (a.map au).length (fun k fr Γ=>fr=[.any,.sl 5 (b.map au),.v (.func (.func 120) #[] #[]),.any,.any,.any,.any,.any,.any,.any,.any,.any,.any,.any,.any,.sl 5 (a.map au),.v (ii ((a.map au).length:Int)),.v (ii (k:Nat)),.any,.any,.any,.any,.any,.any,.any,.any,.any,.any,.any,.any,.any,.any]/\Γ=[]/\sw kz a b k) ?_ (by omega) ?_ ?_ ?_
  ·exact ⟨_,_,Wk.av aj,rfl,rfl,fun j x y h=>by omega⟩
  ·rintro k _ _ ⟨rfl,rfl,_⟩;exact ⟨rfl,rfl,rfl⟩
  ·rintro k _ _ ao ⟨rfl,rfl,kv⟩;rw [kp] at ao
   have mJ:a[k]?=some a[k]:=by simp [ao]
   have pA:k < b.length:=by omega
   have nf:b[k]?=some b[k]:=by simp [pA]
   have EH:(a.map au)[k]?=some (au a[k]):=by rw [getElem?_map,mJ];rfl
   have EI:(b.map au)[k]?=some (au b[k]):=by rw [getElem?_map,nf];rfl
   have hs:=JR a[k] b[k] (ka _ (getElem_mem ao)) (kb _ (getElem_mem pA));generalize a[k]=x at *;generalize b[k]=y at *;unfold au at EH EI hs
   cases jt:kz x y with
   | true =>
    rw [jt] at hs;refine ab ?_;refine iw [] (hs) ?_;refine ab ?_;exact ⟨rfl,rfl,_,_,(Wk.cut (n:=0) (Nat.le_refl _) rfl).trans (Wk.av aj),rfl,rfl,lF mJ nf kv jt⟩
   | false =>
    rw [jt] at hs;rw [qW mJ nf (p:=kz) jt];refine ab ?_;refine iw [] (hs) ?_;exact ar
  ·rintro _ _ ⟨rfl,rfl,kv⟩;rw [kp] at kv;rw [mZ hl kv];exact ar
 ·have hd:(((a.map au).length:Int) != ((b.map au).length:Int))=true:=by rw [kp,pZ];simpa using by omega
  rw [qV hl];refine ah Tryz.func119 Tryz.ntmps119 ?_;exact al
end Go.Xg
namespace Go.Xg
open Go.RowKit Go.Xw Go.Proofs
open Go.Xp (Nd Ar)
open Go.Im (yV eZ qV qW sw lF mZ)
theorem UC (w:World) (s s':ae) (n n':Int):(Op.equalIn 10000 86 (.agg #[sv s,ii n]) (.agg #[sv s',ii n'])).run Tryz.prog w=.ok ((s==s')&&(n==n')) w:=by
 have hf:(Tryz.prog.fieldsOf 86).toList=[(Tryz.prog.fieldsOf 86)[0]!,(Tryz.prog.fieldsOf 86)[1]!]:=by kernel_rfl
 have a0:((Tryz.prog.fieldsOf 86)[0]!).type=9:=by kernel_rfl
 have a1:((Tryz.prog.fieldsOf 86)[1]!).type=3:=by kernel_rfl
 have b0:((Tryz.prog.fieldsOf 86)[0]!).offset=0:=by kernel_rfl
 have b1:((Tryz.prog.fieldsOf 86)[1]!).offset=1:=by kernel_rfl
 have c0:((Tryz.prog.fieldsOf 86)[0]!).name = "Name" := by kernel_rfl
 have c1:((Tryz.prog.fieldsOf 86)[1]!).name = "Size" := by kernel_rfl
 rw [show (10000:Nat)=9999+1 from rfl,run_equalIn_agg w 9999 _ _ _ (by kernel_rfl) (by kernel_rfl),hf];generalize (Tryz.prog.fieldsOf 86)[0]! = f0 at *;generalize (Tryz.prog.fieldsOf 86)[1]! = f1 at *
 have hs:Tryz.prog.underlying 9=some .string:=by kernel_rfl
 have hi:Tryz.prog.underlying 3=some (.int .i64):=by kernel_rfl
 have p0:∀ (a:ae) (b:Int) w,(part f0.type #[sv a,ii b] f0.offset).run Tryz.prog w=.ok (sv a) w:=fun a b w=>by
  rw [a0,b0];rfl
 have p1:∀ (a:ae) (b:Int) w,(part f1.type #[sv a,ii b] f1.offset).run Tryz.prog w=.ok (ii b) w:=fun a b w=>by
  rw [a1,b1];rfl
 have e0:∀ w,(Op.equalIn 9999 f0.type (sv s) (sv s')).run Tryz.prog w=.ok (s==s') w:=fun w=>by
  rw [a0,show (9999:Nat)=9998+1 from rfl];have:=run_equalIn_string (P:=Tryz.prog) w 9998 9 ⟨s.toArray⟩ ⟨s'.toArray⟩ hs;rw [show sv s=.string ⟨s.toArray⟩ from rfl,show sv s'=.string ⟨s'.toArray⟩ from rfl,this];simp [toList_mk]
 have e1:∀ w,(Op.equalIn 9999 f1.type (ii n) (ii n')).run Tryz.prog w=.ok (n==n') w:=fun w=>by
  rw [a1,show (9999:Nat)=9998+1 from rfl];exact run_equalIn_int (P:=Tryz.prog) w 9998 3 .i64 .i64 n n' hi
 have n0:f0.name ≠ "_" := by rw [c0];decide
 have n1:f1.name ≠ "_" := by rw [c1];decide
 rw [Op.eqFields,if_pos n0];simp only [Sem.run_bind,p0,Result.andThen_ok,e0]
 cases s==s' with
 | false=>simp
 | true =>
  simp only [Bool.not_true,Bool.false_eq_true,if_false,Bool.true_and];rw [Op.eqFields,if_pos n1];simp only [Sem.run_bind,p1,Result.andThen_ok,e1]
  cases n==n' with
  | false=>simp
  | true=>simp [Op.eqFields]
theorem YG.TE {fr:List GV} {Γ:List Ob} {x y:Operand} {t':TypeId} {s s':ae} {n n':Int} (hx:aM fr x=.agg [.v (sv s),.v (ii n)]) (hy:aM fr y=.agg [.v (sv s'),.v (ii n')]) :
  YG Tryz.prog (.binOp .neq 86 x y t') fr Γ (.v (.bool (!((s==s')&&(n==n'))))):=fun B K β w l hI hF=>by
 have two:∀ {v:Value} {a b:Value},Rel K β v (.agg [.v a,.v b])->v=.agg #[a,b]:=fun {v a b} h=>by
  cases h with
  | agg vs _ hl hh =>
   match vs,hl with
   | [u1,u2],_ =>
    have h1:=Rel.eg (hh 0 u1 (.v a) rfl rfl);have h2:=Rel.eg (hh 1 u2 (.v b) rfl rfl);rw [h1,h2]
 have rl:=two (by rw [<-hx];exact hF.ev x);have Tk:=two (by rw [<-hy];exact hF.ev y);refine ⟨_,fun d ty pos af=>?_,.v _⟩;have hg:=run_eqGuard_agg (P:=Tryz.prog) w .neq 86 x y #[sv s,ii n] #[sv s',ii n'] (by kernel_rfl);have hn:=run_neq_struct (P:=Tryz.prog) w 86 #[sv s,ii n] #[sv s',ii n'];rw [UC,Result.andThen_ok] at hn;simp [execOp,rl,Tk,hg,hn]
attribute [local irreducible] GW GL GO YG GC GA aQ aR
theorem Qp (a b:List Ar) (ha:a.length<=1099511627776) (hb:b.length<=1099511627776):GF Tryz.prog 116 [(.sl 2 (a.map fun s=>ay s)),(.sl 2 (b.map fun s=>ay s))] [] (.v (.bool (eZ yV a b))) []:=by
 have kp:(a.map fun s=>ay s).length=a.length:=by simp
 have pZ:(b.map fun s=>ay s).length=b.length:=by simp
 by_cases hl:a.length=b.length
 ·have hd:(((a.map fun s=>ay s).length:Int) != ((b.map fun s=>ay s).length:Int))=false:=by rw [kp,pZ,hl];simp
  refine ah Tryz.func116 Tryz.ntmps116 ?_;refine GW.range (a.map fun s=>ay s).length (fun k fr Γ=>fr=[(.sl 2 (a.map fun s=>ay s)),(.sl 2 (b.map fun s=>ay s)),.any,.any,.any,.any,.any,.any,.any,.any,.any,.any,.v (ii ((a.map fun s=>ay s).length:Int)),.v (ii (k:Nat)),.any,.any,.any,.any,.any,.any,.any,.any,.any,.any,.any,.any]/\Γ=[]/\sw yV a b k) ?_ (by omega) ?_ ?_ ?_
  ·exact ⟨_,_,Wk.av aj,rfl,rfl,fun j x y h=>by omega⟩
  ·rintro k _ _ ⟨rfl,rfl,_⟩;exact ⟨rfl,rfl,rfl⟩
  ·rintro k _ _ ao ⟨rfl,rfl,kv⟩;rw [kp] at ao
   have mJ:a[k]?=some a[k]:=by simp [ao]
   have pA:k < b.length:=by omega
   have nf:b[k]?=some b[k]:=by simp [pA]
   have EH:(a.map fun s=>ay s)[k]?=some (ay a[k]):=by rw [getElem?_map,mJ];rfl
   have EI:(b.map fun s=>ay s)[k]?=some (ay b[k]):=by rw [getElem?_map,nf];rfl
   generalize a[k]=x at *;generalize b[k]=y at *;unfold ay at EH EI
   cases jt:yV x y with
   | true =>
    have bH:(!((x.name==y.name)&&(x.size==y.size)))=false:=by rw [show ((x.name==y.name)&&(x.size==y.size))=yV x y from rfl,jt];rfl
    refine ab ?_;refine GW.draw (.q 0 (.q 1 (.q 2 (.q 3 (.q 4 (.q 5 (.q 6 (.q 7 (.q 8 .nil))))))))) (by kernel_rfl) (by kernel_rfl) ?_;refine ai ?_;apply OP
    ·exact rfl
    ·intro Γ;exact YG.TE rfl rfl
    refine Ql ?_;refine ai ?_;refine ab ?_;exact ⟨rfl,rfl,_,_,Wk.av aj,rfl,rfl,lF mJ nf kv jt⟩
   | false =>
    have bH:(!((x.name==y.name)&&(x.size==y.size)))=true:=by rw [show ((x.name==y.name)&&(x.size==y.size))=yV x y from rfl,jt];rfl
    rw [qW mJ nf (p:=yV) jt];refine ab ?_;refine GW.draw (.q 0 (.q 1 (.q 2 (.q 3 (.q 4 (.q 5 (.q 6 (.q 7 (.q 8 .nil))))))))) (by kernel_rfl) (by kernel_rfl) ?_;refine ai ?_;apply OP
    ·exact rfl
    ·intro Γ;exact YG.TE rfl rfl
    refine Ql ?_;refine ai ?_;exact ar
  ·rintro _ _ ⟨rfl,rfl,kv⟩;rw [kp] at kv;rw [mZ hl kv];exact ar
 ·have hd:(((a.map fun s=>ay s).length:Int) != ((b.map fun s=>ay s).length:Int))=true:=by rw [kp,pZ];simpa using by omega
  rw [qV hl];refine ah Tryz.func116 Tryz.ntmps116 ?_;exact al
end Go.Xg
set_option maxHeartbeats 1000000
namespace Go.Xg
open Go.RowKit Go.Xw Go.Proofs
open Go.Xp (Tok Nd T aZ one levels gn dI dY dr db n8)
open Go.Sp Go.Im
attribute [local irreducible] GW GL GO YG GC GA aQ aR
structure GY (f:Nat):Prop where
 expr:∀ d p t q x,p.ok->d+f<=1099511627776->iE f (.expr d) p=some (t,q)->GF Tryz.prog 229 [.loc 0 0,.v (ii (d:Nat))] [bE p x] (qT t) [bE q x]
 level:∀ k d p t q x,p.ok->k<=9->d+f<=1099511627776->iE f (.level k d) p=some (t,q)->GF Tryz.prog 242 [.loc 0 0,.v (ii (k:Nat)),.v (ii (d:Nat))] [bE p x] (qT t) [bE q x]
 operand:∀ d p t q x,p.ok->d+f<=1099511627776->iE f (.operand d) p=some (t,q)->GF Tryz.prog 248 [.loc 0 0,.v (ii (d:Nat))] [bE p x] (qT t) [bE q x]
 exprs:∀ d p l q x,p.ok->d+f<=1099511627776->iA f d [] p=some (l,q)->GF Tryz.prog 252 [.loc 0 0,.v (ii (d:Nat))] [bE p x] (.sl 1 (jS l)) [bE q x]
theorem F4:GF Tryz.prog 211 [.v (ii 0),.v (ii 0),.v (sv []),.sl 1 []] [] (qT T.zero) []:=en 0 0 [] [] [] rfl
theorem Se {f:Nat} (C:GY f) (d:Nat) (p:RS) (t:T) (q:RS) (x:PX) (hp:p.ok) (hd:d+(f+1)<=1099511627776) (h:iE (f+1) (.expr d) p=some (t,q)) :
  GF Tryz.prog 229 [.loc 0 0,.v (ii (d:Nat))] [bE p x] (qT t) [bE q x]:=by
 rw [iE] at h;have dE:=vT p d x hp
 by_cases hc:(bF p d).code=0
 ·have dp:((bF p d).code==0)=true:=by simpa using hc
  rw [if_pos hc] at h;rw [dp] at dE;rw [oc hc] at h dE;have hl:=C.level 0 (d+1) p t q x hp (by omega) (by omega) h;refine ah Tryz.func229 Tryz.ntmps229 ?_;refine U [0] (dE) ?_;refine U [0] (hl) ?_;exact al
 ·have dp:((bF p d).code==0)=false:=by simpa using hc
  rw [if_neg hc] at h;rw [dp] at dE;cases h;refine ah Tryz.func229 Tryz.ntmps229 ?_;refine U [0] (dE) ?_;refine U [] (F4) ?_;exact al
theorem Q6 {f:Nat} (C:∀ f',f'<=f->GY f') (k d:Nat) (p:RS) (t:T) (q:RS) (x:PX) (hp:p.ok) (hk:k<=9) (hd:d+(f+1)<=1099511627776) (h:iE (f+1) (.level k d) p=some (t,q)) :
  GF Tryz.prog 242 [.loc 0 0,.v (ii (k:Nat)),.v (ii (d:Nat))] [bE p x] (qT t) [bE q x]:=by
 rw [iE] at h
 by_cases AN:k=9
 ·subst AN;rw [if_pos rfl] at h;have ho:=(C f (Nat.le_refl _)).operand d p t q x hp (by omega) h;refine ah Tryz.func242 Tryz.ntmps242 ?_;refine U [] (sU) ?_;refine U [0] (ho) ?_;exact al
 ·rw [if_neg AN] at h
  have W2:((k:Int)==9)=false:=by simp;omega
  cases he:iE f (.level (k+1) d) p with
  | none=>rw [he] at h;cases h
  | some r =>
   obtain ⟨out,p1⟩:=r;rw [he] at h;simp only at h;have ik:=((iP f).1 _ _ _ _ hp he).ok hp;have hl:=(C f (Nat.le_refl _)).level (k+1) d p out p1 x hp (by omega) (by omega) he;refine ah Tryz.func242 Tryz.ntmps242 ?_;refine U [] (sU) ?_;refine U [0] (hl) ?_;refine GW.loop (fun z:Nat × T × RS=>z.1) (fun z fr Γ=>fr=[.loc 0 0,.v (ii (k:Nat)),.v (ii (d:Nat)),.any,.any,.any,.any,qT z.2.1,.any,.any,.any,.any,.any,.any,.any,.any,.any,.any,.any,.any,.any,.any,.any,.any,.any,.any,.any,.any,.any,.any,.any,.any,.any,.any,.any,.any,.any,.any,.any,.any,.any,.any,.any,.any,.any,.any,.any,.any,.any,.any,.any,.any,.any,.any,.any,.any,.any,.any,.any,.any,.any,.any,.any,.any]/\Γ=[bE z.2.2 x]/\z.2.2.ok/\z.1<=f/\iE z.1 (.loop k d z.2.1) z.2.2=some (t,q)) (f,out,p1) ?_ ?_
   ·exact ⟨_,_,Wk.av aj,rfl,rfl,ik,Nat.le_refl _,h⟩
   ·clear h he hl;rintro ⟨g,out,p⟩ _ _ ⟨rfl,rfl,hp,Ly,h⟩;simp only at hp Ly h
    cases g with
    | zero=>simp [iE] at h
    | succ g =>
    rw [iE] at h
    have hk:k < 9:=by omega
    have ht:=qP p 0 x hp (by decide)
    by_cases hc:p.code=0
    ·have dp:(p.code==0)=true:=by simpa using hc
     by_cases h3:(tok p 0).kind=3
     ·have jQ:((tok p 0).kind==3)=true:=by simpa using h3
      have Ex:=HV hk;have PI:=gz (levels.getD k []) (tok p 0).s (B4 k hk)
      by_cases hit:(levels.getD k []).contains (tok p 0).s=true
      ·rw [if_pos ⟨hc,h3,hit⟩] at h;rw [hit] at PI;have ao:p.i < p.l.length:=rz (k:=0) (by omega);have ct:=hp.2
       cases hb:iE g (.level (k+1) d) p.next with
       | none=>rw [hb] at h;cases h
       | some r =>
        obtain ⟨b,p2⟩:=r;rw [hb] at h;simp only at h;have cW:=(dv ao).ok hp;have di:=((iP g).1 _ _ _ _ cW hb).ok cW
        have ko:=(C g (by omega)).level (k+1) d p.next b p2 x cW (by omega) (by omega) hb
        generalize tok p 0=tk at *;have ij:=en 6 tk.at_ tk.s [out,b] [[qT out],[qT b]] (gh _);refine ab ?_;refine GW.draw (.q 0 (.q 1 (.q 2 (.q 3 (.q 4 (.q 5 (.q 6 (.a 7 (.q 8 (.q 9 (.q 10 (.q 11 (.q 13 (.q 16 (.a 12 (.q 14 (.q 15 (.a 17 (.q 18 (.a 19 (.q 20 .nil))))))))))))))))))))) (by kernel_rfl) (by kernel_rfl) ?_;refine ai ?_;refine bz [0] (ht) ?_;refine bz [] (sU) ?_;refine bz [0] (ht) ?_;refine bz [] (PI) ?_;refine ab ?_;refine U [0] (ht) ?_;refine GW.draw (.q 0 (.q 1 (.q 2 (.q 3 (.q 4 (.q 5 (.q 6 (.q 7 (.q 8 (.a 9 (.a 10 (.a 11 (.q 12 .nil))))))))))))) (by kernel_rfl) (by kernel_rfl) ?_;refine ai ?_;refine ax [0] (ko) ?_;refine dk ?_;refine ai ?_;refine ax [] (ij) ?_;refine ab ?_;exact ⟨(g,one 6 tk.at_ tk.s [out,b],p2),⟨_,_,(Wk.cut (n:=1) (Nat.le_of_ble_eq_true rfl) rfl).trans (Wk.av aj),rfl,rfl,di,by omega,h⟩,by simp⟩
      ·have hit:(levels.getD k []).contains (tok p 0).s=false:=by simpa using hit
       rw [if_neg (by rw [hit];simp)] at h
       obtain ⟨rfl,rfl⟩:out=t/\p=q:=by simpa using h
       rw [hit] at PI;generalize tok p 0=tk at *;refine ab ?_;refine GW.draw (.q 0 (.q 1 (.q 2 (.q 3 (.q 4 (.q 5 (.q 6 (.a 7 (.q 8 (.q 9 (.q 10 (.q 11 (.q 13 (.q 16 (.a 12 (.q 14 (.q 15 (.a 17 (.q 18 (.a 19 (.q 20 .nil))))))))))))))))))))) (by kernel_rfl) (by kernel_rfl) ?_;refine ai ?_;refine bz [0] (ht) ?_;refine bz [] (sU) ?_;refine bz [0] (ht) ?_;refine bz [] (PI) ?_;refine ab ?_;refine aS ?_;exact ar
     ·have jQ:((tok p 0).kind==3)=false:=by simpa using h3
      rw [if_neg (fun hh=>h3 hh.2.1)] at h
      obtain ⟨rfl,rfl⟩:out=t/\p=q:=by simpa using h
      generalize tok p 0=tk at *;refine ab ?_;refine GW.draw (.q 0 (.q 1 (.q 2 (.q 3 (.q 4 (.q 5 (.q 6 (.a 7 (.q 8 (.q 9 (.q 10 (.q 11 (.q 13 (.q 16 (.a 12 (.q 14 (.q 15 (.a 17 (.q 18 (.a 19 (.q 20 .nil))))))))))))))))))))) (by kernel_rfl) (by kernel_rfl) ?_;refine ai ?_;refine bz [0] (ht) ?_;refine ab ?_;refine aS ?_;exact ar
    ·have dp:(p.code==0)=false:=by simpa using hc
     rw [if_neg (fun hh=>hc hh.1)] at h
     obtain ⟨rfl,rfl⟩:out=t/\p=q:=by simpa using h
     refine ab ?_;refine GW.draw (.q 0 (.q 1 (.q 2 (.q 3 (.q 4 (.q 5 (.q 6 (.a 7 (.q 8 (.q 9 (.q 10 (.q 11 (.q 13 (.q 16 (.a 12 (.q 14 (.q 15 (.a 17 (.q 18 (.a 19 (.q 20 .nil))))))))))))))))))))) (by kernel_rfl) (by kernel_rfl) ?_;refine ai ?_;refine ab ?_;refine aS ?_;exact ar
theorem QM {f:Nat} (C:∀ f',f'<=f->GY f') (d:Nat) (p:RS) (l:List T) (q:RS) (x:PX) (hp:p.ok) (hd:d+(f+1)<=1099511627776) (h:iA (f+1) d [] p=some (l,q)) :
  GF Tryz.prog 252 [.loc 0 0,.v (ii (d:Nat))] [bE p x] (.sl 1 (jS l)) [bE q x]:=by
 refine ah Tryz.func252 Tryz.ntmps252 ?_;refine GW.wk (Wk.B9 (t:=5) (a:=none) (c:=0) 123 1 rfl) ?_;refine GW.loop (fun z:Nat × List T × RS=>z.1) (fun z fr Γ=>∃ n rows,fr=[.loc 0 0,.v (ii (d:Nat)),.any,.any,.any,.vec 1 n,.any,.any,.any,.any,.any,.any,.any,.any,.any,.any,.any,.any,.any,.any,.any,.any,.any,.any,.any,.any,.any,.any,.any,.any,.any,.any]/\Γ=[bE z.2.2 x,.vec 123 1 0 rows]/\rows.length=n/\rows=jS z.2.1/\n+z.1<=f+1/\z.2.2.ok/\iA z.1 d z.2.1 z.2.2=some (l,q)) (f+1,[],p) ?_ ?_
 ·exact ⟨_,_,Wk.av aj,0,[],rfl,rfl,rfl,rfl,by simp,hp,h⟩
 ·clear h hp;rintro ⟨g,acc,p⟩ _ _ ⟨n,rows,rfl,rfl,hn,bj,zc,hp,h⟩;simp only at bj zc hp h
  cases g with
  | zero=>simp [iA] at h
  | succ g =>
  rw [iA] at h;have hi:=jE p 0 [41] x hp (by decide)
  have kO:acc.length=n:=by rw [<-hn,bj,mn]
  by_cases hc:p.code=0
  ·have dp:(p.code==0)=true:=by simpa using hc
   cases hs:is p 0 [41] with
   | true =>
    rw [hs] at hi;rw [if_neg (fun hh=>by have:=hh.2;rw [hs] at this;cases this)] at h
    obtain ⟨rfl,rfl⟩:acc=l/\want p [41]=q:=by simpa using h
    have hw:=eI p [41] x hp;subst bj;refine ab ?_;refine U [0] (hi) ?_;refine aS ?_;refine ab ?_;refine bC ?_;refine ab ?_;refine U [0] (hw) ?_;refine GW.wk (Wk.hY (t:=4) rfl rfl rfl hn) ?_;exact al
   | false =>
    rw [hs] at hi;rw [if_pos ⟨hc,hs⟩] at h
    by_cases h0:acc.length=0
    ·rw [if_pos h0] at h
     have sD:decide ((0:Int) < (n:Int))=false:=by simpa using by omega
     cases hb:iE g (.expr d) p with
     | none=>rw [hb] at h;cases h
     | some r =>
      obtain ⟨a,p2⟩:=r;rw [hb] at h;simp only at h;have di:=((iP g).1 _ _ _ _ hp hb).ok hp;have he:=(C g (by omega)).expr d p a p2 x hp (by omega) hb;refine ab ?_;refine U [0] (hi) ?_;refine U [0] (he) ?_;refine ea ?_;refine ab ?_;exact ⟨(g,acc++[a],p2),⟨_,_,Wk.av aj,_,_,rfl,rfl,by simp [hn],by rw [vo,bj],by show n+1+g<=f+1;omega,di,h⟩,by simp⟩
    ·rw [if_neg h0] at h
     have sD:decide ((0:Int) < (n:Int))=true:=by simpa using by omega
     have lJ:=(bT hp [44]).ok hp;have hw:=eI p [44] x hp
     cases hb:iE g (.expr d) (want p [44]) with
     | none=>rw [hb] at h;cases h
     | some r =>
      obtain ⟨a,p2⟩:=r;rw [hb] at h;simp only at h;have di:=((iP g).1 _ _ _ _ lJ hb).ok lJ;have he:=(C g (by omega)).expr d _ a p2 x lJ (by omega) hb;refine ab ?_;refine U [0] (hi) ?_;refine bC ?_;refine ab ?_;refine U [0] (hw) ?_;refine U [0] (he) ?_;refine ea ?_;refine ab ?_;exact ⟨(g,acc++[a],p2),⟨_,_,Wk.av aj,_,_,rfl,rfl,by simp [hn],by rw [vo,bj],by show n+1+g<=f+1;omega,di,h⟩,by simp⟩
  ·have dp:(p.code==0)=false:=by simpa using hc
   rw [if_neg (fun hh=>hc hh.1)] at h
   obtain ⟨rfl,rfl⟩:acc=l/\want p [41]=q:=by simpa using h
   have hw:=eI p [41] x hp;subst bj;refine ab ?_;refine aS ?_;refine ab ?_;refine bC ?_;refine ab ?_;refine U [0] (hw) ?_;refine GW.wk (Wk.hY (t:=4) rfl rfl rfl hn) ?_;exact al
end Go.Xg
namespace Go.Xg
open Go.RowKit Go.Xw Go.Proofs
open Go.Xp (Tok Nd T aZ one levels gn dI dY dr db n8)
open Go.Sp Go.Im
attribute [local irreducible] GW GL GO YG GC GA aQ aR
theorem Ms {f:Nat} (C:GY f) (d:Nat) (p:RS) (t:T) (q:RS) (x:PX) (hp:p.ok) (hd:d+(f+1)<=1099511627776) (h:iE (f+1) (.operand d) p=some (t,q)) :
  GF Tryz.prog 248 [.loc 0 0,.v (ii (d:Nat))] [bE p x] (qT t) [bE q x]:=by
 rw [iE] at h;have dE:=vT p d x hp;have ht:=qP p 0 x hp (by decide)
 by_cases hc:(bF p d).code=0
 case neg =>
  have dp:((bF p d).code==0)=false:=by simpa using hc
  rw [if_neg hc] at h;rw [dp] at dE;cases h;refine ah Tryz.func248 Tryz.ntmps248 ?_;refine U [0] (ht) ?_;refine U [0] (dE) ?_;refine U [] (F4) ?_;exact al
 case pos =>
 have dp:((bF p d).code==0)=true:=by simpa using hc
 rw [if_pos hc] at h;rw [dp,oc hc] at dE;clear hc dp;have h1:=jE p 0 [45] x hp (by decide);have h2:=jE p 0 [33] x hp (by decide);have h3:=jE p 0 [126] x hp (by decide);have ct:=hp.2;have CU:=hp.1
 cases eL:is p 0 [45] with
 | true =>
  rw [eL] at h1;rw [if_pos (.inl eL)] at h;have ao:p.i < p.l.length:=is_lt (k:=0) eL;have cW:=(dv ao).ok hp
  cases hb:iE f (.operand (d+1)) p.next with
  | none=>rw [hb] at h;cases h
  | some r =>
   obtain ⟨b,p2⟩:=r;rw [hb] at h;cases h
   have xB:=C.operand (d+1) p.next b _ x cW (by omega) hb
   generalize tok p 0=tk at *;have ij:=en 5 tk.at_ tk.s [b] [[qT b]] (gh _);refine ah Tryz.func248 Tryz.ntmps248 ?_;refine U [0] (ht) ?_;refine U [0] (dE) ?_;refine U [0] (h1) ?_;refine GW.draw (.q 0 (.q 1 (.q 2 (.q 3 (.q 4 (.q 5 (.q 6 (.a 7 (.a 8 (.a 9 (.q 10 .nil))))))))))) (by kernel_rfl) (by kernel_rfl) ?_;refine ai ?_;refine ax [0] (xB) ?_;refine dk ?_;refine ai ?_;refine ax [] (ij) ?_;exact ar
 | false =>
 rw [eL] at h1
 cases gy:is p 0 [33] with
 | true =>
  rw [gy] at h2;rw [if_pos (.inr (.inl gy))] at h;have ao:p.i < p.l.length:=is_lt (k:=0) gy;have cW:=(dv ao).ok hp
  cases hb:iE f (.operand (d+1)) p.next with
  | none=>rw [hb] at h;cases h
  | some r =>
   obtain ⟨b,p2⟩:=r;rw [hb] at h;cases h
   have xB:=C.operand (d+1) p.next b _ x cW (by omega) hb
   generalize tok p 0=tk at *;have ij:=en 5 tk.at_ tk.s [b] [[qT b]] (gh _);refine ah Tryz.func248 Tryz.ntmps248 ?_;refine U [0] (ht) ?_;refine U [0] (dE) ?_;refine U [0] (h1) ?_;refine U [0] (h2) ?_;refine GW.draw (.q 0 (.q 1 (.q 2 (.q 3 (.q 4 (.q 5 (.q 6 (.a 7 (.a 8 (.a 9 (.q 10 .nil))))))))))) (by kernel_rfl) (by kernel_rfl) ?_;refine ai ?_;refine ax [0] (xB) ?_;refine dk ?_;refine ai ?_;refine ax [] (ij) ?_;exact ar
 | false =>
 rw [gy] at h2
 cases mK:is p 0 [126] with
 | true =>
  rw [mK] at h3;rw [if_pos (.inr (.inr mK))] at h;have ao:p.i < p.l.length:=is_lt (k:=0) mK;have cW:=(dv ao).ok hp
  cases hb:iE f (.operand (d+1)) p.next with
  | none=>rw [hb] at h;cases h
  | some r =>
   obtain ⟨b,p2⟩:=r;rw [hb] at h;cases h
   have xB:=C.operand (d+1) p.next b _ x cW (by omega) hb
   generalize tok p 0=tk at *;have ij:=en 5 tk.at_ tk.s [b] [[qT b]] (gh _);refine ah Tryz.func248 Tryz.ntmps248 ?_;refine U [0] (ht) ?_;refine U [0] (dE) ?_;refine U [0] (h1) ?_;refine U [0] (h2) ?_;refine U [0] (h3) ?_;refine GW.draw (.q 0 (.q 1 (.q 2 (.q 3 (.q 4 (.q 5 (.q 6 (.a 7 (.a 8 (.a 9 (.q 10 .nil))))))))))) (by kernel_rfl) (by kernel_rfl) ?_;refine ai ?_;refine ax [0] (xB) ?_;refine dk ?_;refine ai ?_;refine ax [] (ij) ?_;exact ar
 | false =>
 rw [mK] at h3;rw [if_neg (by rw [eL,gy,mK];decide)] at h
 by_cases hk:(tok p 0).kind=1
 case pos =>
  rw [if_pos hk] at h;have ao:p.i < p.l.length:=rz (k:=0) (by omega)
  have ln:((tok p 0).kind==1)=true:=by simpa using hk
  cases h;generalize tok p 0=tk at *;have ij:=Mo 1 tk.at_ [] [];refine ah Tryz.func248 Tryz.ntmps248 ?_;refine U [0] (ht) ?_;refine U [0] (dE) ?_;refine U [0] (h1) ?_;refine U [0] (h2) ?_;refine U [0] (h3) ?_;refine U [] (ij) ?_;refine GW.wk (Wk.freeze (i:=2) rfl rfl rfl (Nat.le_of_ble_eq_true rfl)) ?_;exact al
 case neg =>
 rw [if_neg hk] at h
 have ln:((tok p 0).kind==1)=false:=by simpa using hk
 have h4:=jE p 0 [40] x hp (by decide)
 cases wU:is p 0 [40] with
 | true =>
  rw [wU] at h4;rw [if_pos wU] at h;have ao:p.i < p.l.length:=is_lt (k:=0) wU;have cW:=(dv ao).ok hp
  cases hb:iE f (.expr (d+1)) p.next with
  | none=>rw [hb] at h;cases h
  | some r =>
   obtain ⟨b,p2⟩:=r;rw [hb] at h;cases h;have di:=((iP f).1 _ _ _ _ cW hb).ok cW
   have xB:=C.expr (d+1) p.next _ p2 x cW (by omega) hb
   have hw:=eI p2 [41] x di;generalize tok p 0=tk at *;refine ah Tryz.func248 Tryz.ntmps248 ?_;refine U [0] (ht) ?_;refine U [0] (dE) ?_;refine U [0] (h1) ?_;refine U [0] (h2) ?_;refine U [0] (h3) ?_;refine U [0] (h4) ?_;refine U [0] (xB) ?_;refine bC ?_;refine ab ?_;refine U [0] (hw) ?_;exact al
 | false =>
 rw [wU] at h4;rw [if_neg (by rw [wU];decide)] at h;have hn:=qv p x hp;have cW:=(gK hp).ok hp
 by_cases lH:(bd p).code=0
 case neg =>
  rw [if_neg lH] at h
  have WR:((bd p).code != 0)=true:=by simpa using lH
  cases h;generalize tok p 0=tk at *;generalize bd p=p1 at *;have ij:=en 2 tk.at_ tk.s [] [] rfl;refine ah Tryz.func248 Tryz.ntmps248 ?_;refine U [0] (ht) ?_;refine U [0] (dE) ?_;refine U [0] (h1) ?_;refine U [0] (h2) ?_;refine U [0] (h3) ?_;refine U [0] (h4) ?_;refine U [0] (hn) ?_;refine U [] (ij) ?_;exact al
 case pos =>
 rw [if_pos lH] at h
 have WR:((bd p).code != 0)=false:=by simpa using lH
 generalize bd p=p1 at *;generalize tok p 0=tk at *;have h5:=jE p1 0 [91] x cW (by decide);have ZU:=cW.2;have ZT:=cW.1
 cases hs5:is p1 0 [91] with
 | true =>
  rw [hs5] at h5;rw [if_pos hs5] at h;have ao:p1.i < p1.l.length:=is_lt (k:=0) hs5;have EG:=(dv ao).ok cW
  cases hb:iE f (.expr (d+1)) p1.next with
  | none=>rw [hb] at h;cases h
  | some r =>
   obtain ⟨b,p2⟩:=r;rw [hb] at h;cases h;have di:=((iP f).1 _ _ _ _ EG hb).ok EG
   have xB:=C.expr (d+1) p1.next b p2 x EG (by omega) hb
   have hw:=eI p2 [93] x di;have ij:=en 3 tk.at_ tk.s [b] [[qT b]] (gh _);refine ah Tryz.func248 Tryz.ntmps248 ?_;refine U [0] (ht) ?_;refine U [0] (dE) ?_;refine U [0] (h1) ?_;refine U [0] (h2) ?_;refine U [0] (h3) ?_;refine U [0] (h4) ?_;refine U [0] (hn) ?_;refine U [0] (h5) ?_;refine U [0] (xB) ?_;refine bC ?_;refine ab ?_;refine U [0] (hw) ?_;refine bC ?_;refine ab ?_;refine U [] (ij) ?_;exact al
 | false =>
 rw [hs5] at h5;rw [if_neg (by rw [hs5];decide)] at h;have h6:=jE p1 0 [40] x cW (by decide)
 cases hs6:is p1 0 [40] with
 | true =>
  rw [hs6] at h6;rw [if_pos hs6] at h;have ao:p1.i < p1.l.length:=is_lt (k:=0) hs6;have EG:=(dv ao).ok cW
  cases hb:iA f (d+1) [] p1.next with
  | none=>rw [hb] at h;cases h
  | some r =>
   obtain ⟨b,p2⟩:=r;rw [hb] at h;cases h
   have xB:=C.exprs (d+1) p1.next b _ x EG (by omega) hb
   have ij:=en 4 tk.at_ tk.s b (jS b) rfl;refine ah Tryz.func248 Tryz.ntmps248 ?_;refine U [0] (ht) ?_;refine U [0] (dE) ?_;refine U [0] (h1) ?_;refine U [0] (h2) ?_;refine U [0] (h3) ?_;refine U [0] (h4) ?_;refine U [0] (hn) ?_;refine U [0] (h5) ?_;refine U [0] (h6) ?_;refine GW.draw (.q 0 (.q 1 (.q 2 (.q 3 (.q 4 (.q 5 (.a 6 (.a 7 (.q 8 .nil))))))))) (by kernel_rfl) (by kernel_rfl) ?_;refine ai ?_;refine ax [0] (xB) ?_;refine ax [] (ij) ?_;exact ar
 | false =>
  rw [hs6] at h6;rw [if_neg (by rw [hs6];decide)] at h;cases h;have ij:=en 2 tk.at_ tk.s [] [] rfl;refine ah Tryz.func248 Tryz.ntmps248 ?_;refine U [0] (ht) ?_;refine U [0] (dE) ?_;refine U [0] (h1) ?_;refine U [0] (h2) ?_;refine U [0] (h3) ?_;refine U [0] (h4) ?_;refine U [0] (hn) ?_;refine U [0] (h5) ?_;refine U [0] (h6) ?_;refine U [] (ij) ?_;exact al
theorem Wb (f:Nat):GY f:=by
 induction f using Nat.strongRecOn with
 | _ f ih =>
  cases f with
  | zero=>exact ⟨fun d p t q x _ _ h=>by simp [iE] at h,fun k d p t q x _ _ _ h=>by simp [iE] at h,fun d p t q x _ _ h=>by simp [iE] at h,fun d p l q x _ _ h=>by simp [iA] at h⟩
  | succ f =>
   have C:=ih f (Nat.lt_succ_self f)
   have Cs:∀ f',f'<=f->GY f':=fun f' h=>ih f' (Nat.lt_succ_of_le h)
   exact ⟨fun d p t q x hp hd h=>Se C d p t q x hp hd h,fun k d p t q x hp hk hd h=>Q6 Cs k d p t q x hp hk hd h,fun d p t q x hp hd h=>Ms C d p t q x hp hd h,fun d p l q x hp hd h=>QM Cs d p l q x hp hd h⟩
end Go.Xg
namespace Go.Im
open Go.Xp Go.Sp
def TX (f d:Nat) (p:RS):Option (T × RS) :=
 if (tok p 0).kind=2/\is p 1 [61]=true then match iE f (.expr (d+1)) (want (bd p) [61]) with
  | none=>none
  | some (e,q)=>some (one 7 (tok p 0).at_ (tok p 0).s [e],want q [59])
 else match iE f (.expr (d+1)) p with
  | none=>none
  | some (e,q) =>
   if wE p q e then match e.kids,iE f (.expr (d+1)) (want q [61]) with
    | a::_,some (v,q)=>some (one 8 (tok p 0).at_ e.n.s [a,v],want q [59])
    | _,_=>none
   else some (one 12 (tok p 0).at_ [] [e],want q [59])
end Go.Im
namespace Go.Xg
open Go.RowKit Go.Xw Go.Proofs
open Go.Xp (Tok Nd T aZ one levels gn dI dY dr db n8)
open Go.Sp Go.Im
attribute [local irreducible] GW GL GO YG GC GA aQ aR
theorem OR {f:Nat} (d:Nat) (p:RS) (t:T) (q:RS) (x:PX) (hp:p.ok) (hd:d+1+f<=1099511627776) (h:TX f d p=some (t,q)) :
  GF Tryz.prog 230 [.loc 0 0,.v (ii (d:Nat))] [bE p x] (qT t) [bE q x]:=by
 unfold TX at h;have C:=Wb f;have ht:=qP p 0 x hp (by decide);have hi:=jE p 1 [61] x hp (by decide)
 have main:∀ kk,((tok p 0).kind==2)=kk->(kk=true->is p 1 [61]=false)->GF Tryz.prog 230 [.loc 0 0,.v (ii (d:Nat))] [bE p x] (qT t) [bE q x]:=by
  intro kk hk re
  rw [if_neg (fun hh=>by
   have h1:kk=true:=by rw [<-hk];simpa using hh.1
   have h2:=re h1
   rw [hh.2] at h2;cases h2)] at h
  cases he:iE f (.expr (d+1)) p with
  | none=>rw [he] at h;cases h
  | some r =>
   obtain ⟨e,q1⟩:=r;rw [he] at h;simp only at h;have p9:=((iP f).1 _ _ _ _ hp he).ok hp;have ZZ:=p9.1;have Z0:=p9.2;have hex:=C.expr (d+1) p e q1 x hp (by omega) he;have PK:=jE q1 0 [61] x p9 (by decide)
   have Ek:e.n.kind=3->q1.code=0->∃ zp,q1.l[q1.i - 1]?=some zp/\tY q1=zp.s/\1<=q1.i:=by
    intro _ hc;have h1:=To f _ _ _ _ hp he hc (fun k d out h=>by cases h);have h2:=p9.1
    have ao:q1.i - 1 < q1.l.length:=by omega
    exact ⟨q1.l[q1.i - 1],by simp [ao],by unfold tY;simp [ao],by omega⟩
   by_cases hput:wE p q1 e
   ·rw [if_pos hput] at h;have kr:=hput;obtain ⟨s1,s2,s3,s4,s5,s6⟩:=kr;obtain ⟨zp,a1,a2,a3⟩:=Ek s1 s2
    have iC:kk=true:=by rw [<-hk];simpa using s5
    subst iC;have za:=re rfl;rw [za] at hi;rw [s6] at PK
    match oR:e.kids,hv:iE f (.expr (d+1)) (want q1 [61]),h with
    | a::rk,some (v,q2),h =>
     cases h;have lJ:=(bT p9 [61]).ok p9;have HD:=((iP f).1 _ _ _ _ lJ hv).ok lJ;have hw:=eI q1 [61] x p9;have WW:=C.expr (d+1) _ v q2 x lJ (by omega) hv;have oo:=eI q2 [59] x HD;have hr:=j0 a1;have dj:(jS e.kids)[0]?=some [qT a]:=Bf (by rw [oR];rfl);have LJ:(jS (a::rk))[0]?=some [qT a]:=Bf rfl
     have b1:(e.n.kind==3)=true:=by simpa using s1
     have b2:(q1.code==0)=true:=by simpa using s2
     have b3:(zp.s==[93])=true:=by rw [<-a2];simpa using s3
     have b4:(e.n.at_==(tok p 0).at_)=true:=by simpa using s4
     have ij:=en 8 (tok p 0).at_ e.n.s [a,v] [[qT a],[qT v]] (gh _);generalize tok p 0=tk at *;refine ah Tryz.func230 Tryz.ntmps230 ?_;refine U [0] (ht) ?_;refine U [0] (hi) ?_;refine U [0] (hex) ?_;refine GW.draw (.q 0 (.q 1 (.q 2 (.q 3 (.q 4 (.q 5 (.q 6 (.q 7 (.q 8 (.q 9 (.q 10 (.q 11 (.q 12 (.q 13 (.q 14 (.q 15 (.q 16 (.q 17 (.q 18 (.q 19 (.q 20 (.q 21 (.q 22 (.q 23 (.q 24 (.q 25 (.q 26 (.q 27 (.q 28 (.q 29 (.q 30 (.q 31 (.q 32 (.q 33 (.q 34 (.q 35 (.q 36 (.q 37 (.q 38 (.q 39 (.q 40 (.q 41 (.q 42 (.q 43 (.q 44 (.a 45 (.q 46 .nil))))))))))))))))))))))))))))))))))))))))))))))) (by kernel_rfl) (by kernel_rfl) ?_;refine ai ?_;refine bz [0] (PK) ?_;refine ab ?_;refine bC ?_;refine ab ?_;refine U [0] (hw) ?_;refine U [0] (WW) ?_;refine bC ?_;refine ab ?_;refine U [0] (oo) ?_;refine GW.draw (.q 0 (.q 1 (.q 2 (.q 3 (.q 4 (.q 5 (.q 6 (.q 7 (.q 8 (.q 9 (.q 10 (.q 11 (.q 12 (.q 13 (.a 14 (.a 15 (.q 16 .nil))))))))))))))))) (by kernel_rfl) (by kernel_rfl) ?_;refine ai ?_;refine dk ?_;refine ai ?_;refine ax [] (ij) ?_;exact ar
    | [],_,h=>simp at h
    | _::_,none,h=>simp at h
   ·rw [if_neg hput] at h;cases h;have hw:=eI q1 [59] x p9;have ij:=en 12 (tok p 0).at_ [] [e] [[qT e]] (gh _)
    cases kk with
    | true =>
     have za:=re rfl;rw [za] at hi;refine ah Tryz.func230 Tryz.ntmps230 ?_;refine U [0] (ht) ?_;refine U [0] (hi) ?_;refine U [0] (hex) ?_;refine GW.join (fun fr Γ=>fr=[.loc 0 0,.v (ii (d:Nat)),.any,.any,.any,.loc 1 0,.any,.any,qT e,.any,.any,.any,.any,.any,.any,.any,.any,.any,.any,.any,.any,.any,.any,.any,.any,.any,.any,.any,.any,.any,.any,.any,.any,.any,.any,.any,.any,.any,.any,.any,.any,.any,.any,.any,.any,.any,.any,.any,.any,.any,.any,.any,.any,.any,.any,.any,.any,.any,.any,.any,.any,.any,.any,.any,.any,.any,.any,.any,.any,.any,.any,.any,.any,.any,.any,.any,.any,.any,.any,.any,.any,.any,.any,.any,.any,.any,.any,.v (.bool false),.any,.any,.any,.any,.any,.any,.any,.any,.any,.any,.any,.any,.any,.any,.any,.any,.any,.any,.any,.any,.any,.any,.any,.any,.any,.any,.any,.any,.any,.any,.any,.any,.any,.any]/\Γ=[bE q1 x,.box 162 (c6 (tok p 0))]) ?_ ?_
     ·by_cases s1:e.n.kind=3
      ·have b1:(e.n.kind==3)=true:=by simpa using s1
       by_cases s2:q1.code=0
       ·have b2:(q1.code==0)=true:=by simpa using s2
        obtain ⟨zp,a1,a2,a3⟩:=Ek s1 s2;have hr:=j0 a1
        by_cases s3:tY q1=[93]
        ·have b3:(zp.s==[93])=true:=by rw [<-a2];simpa using s3
         by_cases s4:e.n.at_=(tok p 0).at_
         ·have b4:(e.n.at_==(tok p 0).at_)=true:=by simpa using s4
          have s6:is q1 0 [61]=false:=by
           cases h6:is q1 0 [61] with
           | false=>rfl
           | true=>exact absurd ⟨s1,s2,s3,s4,by simpa using hk,h6⟩ hput
          rw [s6] at PK;generalize tok p 0=tk at *;refine GW.draw (.q 0 (.q 1 (.q 2 (.q 3 (.q 4 (.q 5 (.q 6 (.q 7 (.q 8 (.q 9 (.q 10 (.q 11 (.q 12 (.q 13 (.q 14 (.q 15 (.q 16 (.q 17 (.q 18 (.q 19 (.q 20 (.q 21 (.q 22 (.q 23 (.q 24 (.q 25 (.q 26 (.q 27 (.q 28 (.q 29 (.q 30 (.q 31 (.q 32 (.q 33 (.q 34 (.q 35 (.q 36 (.q 37 (.q 38 (.q 39 (.q 40 (.q 41 (.q 42 (.q 43 (.q 44 (.a 45 (.q 46 .nil))))))))))))))))))))))))))))))))))))))))))))))) (by kernel_rfl) (by kernel_rfl) ?_;refine ai ?_;refine bz [0] (PK) ?_;refine ab ?_;exact ⟨_,_,Wk.av aj,rfl,rfl⟩
         ·have b4:(e.n.at_==(tok p 0).at_)=false:=by simpa using s4
          generalize tok p 0=tk at *;refine GW.draw (.q 0 (.q 1 (.q 2 (.q 3 (.q 4 (.q 5 (.q 6 (.q 7 (.q 8 (.q 9 (.q 10 (.q 11 (.q 12 (.q 13 (.q 14 (.q 15 (.q 16 (.q 17 (.q 18 (.q 19 (.q 20 (.q 21 (.q 22 (.q 23 (.q 24 (.q 25 (.q 26 (.q 27 (.q 28 (.q 29 (.q 30 (.q 31 (.q 32 (.q 33 (.q 34 (.q 35 (.q 36 (.q 37 (.q 38 (.q 39 (.q 40 (.q 41 (.q 42 (.q 43 (.q 44 (.a 45 (.q 46 .nil))))))))))))))))))))))))))))))))))))))))))))))) (by kernel_rfl) (by kernel_rfl) ?_;refine ai ?_;refine ab ?_;exact ⟨_,_,Wk.av aj,rfl,rfl⟩
        ·have b3:(zp.s==[93])=false:=by rw [<-a2];simpa using s3
         generalize tok p 0=tk at *;refine GW.draw (.q 0 (.q 1 (.q 2 (.q 3 (.q 4 (.q 5 (.q 6 (.q 7 (.q 8 (.q 9 (.q 10 (.q 11 (.q 12 (.q 13 (.q 14 (.q 15 (.q 16 (.q 17 (.q 18 (.q 19 (.q 20 (.q 21 (.q 22 (.q 23 (.q 24 (.q 25 (.q 26 (.q 27 (.q 28 (.q 29 (.q 30 (.q 31 (.q 32 (.q 33 (.q 34 (.q 35 (.q 36 (.q 37 (.q 38 (.q 39 (.q 40 (.q 41 (.q 42 (.q 43 (.q 44 (.a 45 (.q 46 .nil))))))))))))))))))))))))))))))))))))))))))))))) (by kernel_rfl) (by kernel_rfl) ?_;refine ai ?_;refine ab ?_;exact ⟨_,_,Wk.av aj,rfl,rfl⟩
       ·have b2:(q1.code==0)=false:=by simpa using s2
        generalize tok p 0=tk at *;refine GW.draw (.q 0 (.q 1 (.q 2 (.q 3 (.q 4 (.q 5 (.q 6 (.q 7 (.q 8 (.q 9 (.q 10 (.q 11 (.q 12 (.q 13 (.q 14 (.q 15 (.q 16 (.q 17 (.q 18 (.q 19 (.q 20 (.q 21 (.q 22 (.q 23 (.q 24 (.q 25 (.q 26 (.q 27 (.q 28 (.q 29 (.q 30 (.q 31 (.q 32 (.q 33 (.q 34 (.q 35 (.q 36 (.q 37 (.q 38 (.q 39 (.q 40 (.q 41 (.q 42 (.q 43 (.q 44 (.a 45 (.q 46 .nil))))))))))))))))))))))))))))))))))))))))))))))) (by kernel_rfl) (by kernel_rfl) ?_;refine ai ?_;refine ab ?_;exact ⟨_,_,Wk.av aj,rfl,rfl⟩
      ·have b1:(e.n.kind==3)=false:=by simpa using s1
       generalize tok p 0=tk at *;refine GW.draw (.q 0 (.q 1 (.q 2 (.q 3 (.q 4 (.q 5 (.q 6 (.q 7 (.q 8 (.q 9 (.q 10 (.q 11 (.q 12 (.q 13 (.q 14 (.q 15 (.q 16 (.q 17 (.q 18 (.q 19 (.q 20 (.q 21 (.q 22 (.q 23 (.q 24 (.q 25 (.q 26 (.q 27 (.q 28 (.q 29 (.q 30 (.q 31 (.q 32 (.q 33 (.q 34 (.q 35 (.q 36 (.q 37 (.q 38 (.q 39 (.q 40 (.q 41 (.q 42 (.q 43 (.q 44 (.a 45 (.q 46 .nil))))))))))))))))))))))))))))))))))))))))))))))) (by kernel_rfl) (by kernel_rfl) ?_;refine ai ?_;refine ab ?_;exact ⟨_,_,Wk.av aj,rfl,rfl⟩
     ·rintro _ _ ⟨rfl,rfl⟩;generalize tok p 0=tk at *;refine ab ?_;refine bC ?_;refine ab ?_;refine U [0] (hw) ?_;refine bC ?_;refine ab ?_;refine U [] (ij) ?_;exact al
    | false =>
     refine ah Tryz.func230 Tryz.ntmps230 ?_;refine U [0] (ht) ?_;refine U [0] (hex) ?_;refine GW.join (fun fr Γ=>fr=[.loc 0 0,.v (ii (d:Nat)),.any,.any,.any,.loc 1 0,.any,.any,qT e,.any,.any,.any,.any,.any,.any,.any,.any,.any,.any,.any,.any,.any,.any,.any,.any,.any,.any,.any,.any,.any,.any,.any,.any,.any,.any,.any,.any,.any,.any,.any,.any,.any,.any,.any,.any,.any,.any,.any,.any,.any,.any,.any,.any,.any,.any,.any,.any,.any,.any,.any,.any,.any,.any,.any,.any,.any,.any,.any,.any,.any,.any,.any,.any,.any,.any,.any,.any,.any,.any,.any,.any,.any,.any,.any,.any,.any,.any,.v (.bool false),.any,.any,.any,.any,.any,.any,.any,.any,.any,.any,.any,.any,.any,.any,.any,.any,.any,.any,.any,.any,.any,.any,.any,.any,.any,.any,.any,.any,.any,.any,.any,.any,.any,.any]/\Γ=[bE q1 x,.box 162 (c6 (tok p 0))]) ?_ ?_
     ·by_cases s1:e.n.kind=3
      ·have b1:(e.n.kind==3)=true:=by simpa using s1
       by_cases s2:q1.code=0
       ·have b2:(q1.code==0)=true:=by simpa using s2
        obtain ⟨zp,a1,a2,a3⟩:=Ek s1 s2;have hr:=j0 a1
        by_cases s3:tY q1=[93]
        ·have b3:(zp.s==[93])=true:=by rw [<-a2];simpa using s3
         by_cases s4:e.n.at_=(tok p 0).at_
         ·have b4:(e.n.at_==(tok p 0).at_)=true:=by simpa using s4
          generalize tok p 0=tk at *;refine GW.draw (.q 0 (.q 1 (.q 2 (.q 3 (.q 4 (.q 5 (.q 6 (.q 7 (.q 8 (.q 9 (.q 10 (.q 11 (.q 12 (.q 13 (.q 14 (.q 15 (.q 16 (.q 17 (.q 18 (.q 19 (.q 20 (.q 21 (.q 22 (.q 23 (.q 24 (.q 25 (.q 26 (.q 27 (.q 28 (.q 29 (.q 30 (.q 31 (.q 32 (.q 33 (.q 34 (.q 35 (.q 36 (.q 37 (.q 38 (.q 39 (.q 40 (.q 41 (.q 42 (.q 43 (.q 44 (.a 45 (.q 46 .nil))))))))))))))))))))))))))))))))))))))))))))))) (by kernel_rfl) (by kernel_rfl) ?_;refine ai ?_;refine ab ?_;exact ⟨_,_,Wk.av aj,rfl,rfl⟩
         ·have b4:(e.n.at_==(tok p 0).at_)=false:=by simpa using s4
          generalize tok p 0=tk at *;refine GW.draw (.q 0 (.q 1 (.q 2 (.q 3 (.q 4 (.q 5 (.q 6 (.q 7 (.q 8 (.q 9 (.q 10 (.q 11 (.q 12 (.q 13 (.q 14 (.q 15 (.q 16 (.q 17 (.q 18 (.q 19 (.q 20 (.q 21 (.q 22 (.q 23 (.q 24 (.q 25 (.q 26 (.q 27 (.q 28 (.q 29 (.q 30 (.q 31 (.q 32 (.q 33 (.q 34 (.q 35 (.q 36 (.q 37 (.q 38 (.q 39 (.q 40 (.q 41 (.q 42 (.q 43 (.q 44 (.a 45 (.q 46 .nil))))))))))))))))))))))))))))))))))))))))))))))) (by kernel_rfl) (by kernel_rfl) ?_;refine ai ?_;refine ab ?_;exact ⟨_,_,Wk.av aj,rfl,rfl⟩
        ·have b3:(zp.s==[93])=false:=by rw [<-a2];simpa using s3
         generalize tok p 0=tk at *;refine GW.draw (.q 0 (.q 1 (.q 2 (.q 3 (.q 4 (.q 5 (.q 6 (.q 7 (.q 8 (.q 9 (.q 10 (.q 11 (.q 12 (.q 13 (.q 14 (.q 15 (.q 16 (.q 17 (.q 18 (.q 19 (.q 20 (.q 21 (.q 22 (.q 23 (.q 24 (.q 25 (.q 26 (.q 27 (.q 28 (.q 29 (.q 30 (.q 31 (.q 32 (.q 33 (.q 34 (.q 35 (.q 36 (.q 37 (.q 38 (.q 39 (.q 40 (.q 41 (.q 42 (.q 43 (.q 44 (.a 45 (.q 46 .nil))))))))))))))))))))))))))))))))))))))))))))))) (by kernel_rfl) (by kernel_rfl) ?_;refine ai ?_;refine ab ?_;exact ⟨_,_,Wk.av aj,rfl,rfl⟩
       ·have b2:(q1.code==0)=false:=by simpa using s2
        generalize tok p 0=tk at *;refine GW.draw (.q 0 (.q 1 (.q 2 (.q 3 (.q 4 (.q 5 (.q 6 (.q 7 (.q 8 (.q 9 (.q 10 (.q 11 (.q 12 (.q 13 (.q 14 (.q 15 (.q 16 (.q 17 (.q 18 (.q 19 (.q 20 (.q 21 (.q 22 (.q 23 (.q 24 (.q 25 (.q 26 (.q 27 (.q 28 (.q 29 (.q 30 (.q 31 (.q 32 (.q 33 (.q 34 (.q 35 (.q 36 (.q 37 (.q 38 (.q 39 (.q 40 (.q 41 (.q 42 (.q 43 (.q 44 (.a 45 (.q 46 .nil))))))))))))))))))))))))))))))))))))))))))))))) (by kernel_rfl) (by kernel_rfl) ?_;refine ai ?_;refine ab ?_;exact ⟨_,_,Wk.av aj,rfl,rfl⟩
      ·have b1:(e.n.kind==3)=false:=by simpa using s1
       generalize tok p 0=tk at *;refine GW.draw (.q 0 (.q 1 (.q 2 (.q 3 (.q 4 (.q 5 (.q 6 (.q 7 (.q 8 (.q 9 (.q 10 (.q 11 (.q 12 (.q 13 (.q 14 (.q 15 (.q 16 (.q 17 (.q 18 (.q 19 (.q 20 (.q 21 (.q 22 (.q 23 (.q 24 (.q 25 (.q 26 (.q 27 (.q 28 (.q 29 (.q 30 (.q 31 (.q 32 (.q 33 (.q 34 (.q 35 (.q 36 (.q 37 (.q 38 (.q 39 (.q 40 (.q 41 (.q 42 (.q 43 (.q 44 (.a 45 (.q 46 .nil))))))))))))))))))))))))))))))))))))))))))))))) (by kernel_rfl) (by kernel_rfl) ?_;refine ai ?_;refine ab ?_;exact ⟨_,_,Wk.av aj,rfl,rfl⟩
     ·rintro _ _ ⟨rfl,rfl⟩;generalize tok p 0=tk at *;refine ab ?_;refine bC ?_;refine ab ?_;refine U [0] (hw) ?_;refine bC ?_;refine ab ?_;refine U [] (ij) ?_;exact al
 by_cases hk:(tok p 0).kind=2
 ·cases za:is p 1 [61] with
  | true =>
   clear main;rw [if_pos ⟨hk,za⟩] at h;rw [za] at hi
   have ln:((tok p 0).kind==2)=true:=by simpa using hk
   have hn:=qv p x hp;have cW:=(gK hp).ok hp;have hw:=eI (bd p) [61] x cW;have lJ:=(bT cW [61]).ok cW
   cases he:iE f (.expr (d+1)) (want (bd p) [61]) with
   | none=>rw [he] at h;cases h
   | some r =>
    obtain ⟨e,q1⟩:=r;rw [he] at h;cases h;have p9:=((iP f).1 _ _ _ _ lJ he).ok lJ;have hex:=C.expr (d+1) _ e q1 x lJ (by omega) he;have oo:=eI q1 [59] x p9;have ij:=en 7 (tok p 0).at_ (tok p 0).s [e] [[qT e]] (gh _);generalize tok p 0=tk at *;refine ah Tryz.func230 Tryz.ntmps230 ?_;refine U [0] (ht) ?_;refine U [0] (hi) ?_;refine U [0] (hn) ?_;refine bC ?_;refine ab ?_;refine U [0] (hw) ?_;refine U [0] (hex) ?_;refine bC ?_;refine ab ?_;refine U [0] (oo) ?_;refine bC ?_;refine ab ?_;refine U [] (ij) ?_;exact al
  | false=>exact main true (by simpa using hk) (fun _=>za)
 ·exact main false (by simpa using hk) (fun h=>by cases h)
end Go.Xg
namespace Go.Xg
open Go.RowKit Go.Xw Go.Proofs
open Go.Xp (Tok Nd T aZ one levels gn dI dY dr db n8 qf)
open Go.Sp Go.Im
attribute [local irreducible] GW GL GO YG GC GA aQ aR
theorem Mn (k a:Int) (s:ae):GF Tryz.prog 211 [.v (ii k),.v (ii a),.v (sv s),.v (.slice none 0 0)] [] (.loc 0 0) [.box 149 [.v (ii k),.v (ii a),.v (ii 0),.v (sv s),.v (.slice none 0 0),.v (.slice none 0 0)]]:=by
 refine ah Tryz.func211 Tryz.ntmps211 ?_;refine GW.wk (Wk.cells 0 rfl (ds:=[.v (ii k),.v (ii a),.v (ii 0),.v (sv s),.v (.slice none 0 0),.v (.slice none 0 0)]) iZ) ?_;refine GW.ret ?_;refine ql (n:=1) rfl (by first | exact .inr rfl | exact .inl rfl) rfl (Nat.zero_le _) rfl rfl ?_;exact ⟨rfl,rfl⟩
structure Po (f:Nat):Prop where
 block:∀ d p t q x,p.ok->d+3+f<=1099511627776->iS f (.block d) p=some (t,q)->GF Tryz.prog 183 [.loc 0 0,.v (ii (d:Nat))] [bE p x] (qT t) [bE q x]
 stmt:∀ d p t q x,p.ok->d+3+f<=1099511627776->iS f (.stmt d) p=some (t,q)->GF Tryz.prog 213 [.loc 0 0,.v (ii (d:Nat))] [bE p x] (qT t) [bE q x]
theorem Qz {f:Nat} (C:∀ f',f'<=f->Po f') (d:Nat) (p:RS) (t:T) (q:RS) (x:PX) (hp:p.ok) (hd:d+3+(f+1)<=1099511627776) (h:iS (f+1) (.block d) p=some (t,q)) :
  GF Tryz.prog 183 [.loc 0 0,.v (ii (d:Nat))] [bE p x] (qT t) [bE q x]:=by
 rw [iS] at h;have dE:=vT p d x hp;have ht:=qP p 0 x hp (by decide);have CR:=Mn 14 (tok p 0).at_ []
 by_cases hc:(bF p d).code=0
 case neg =>
  have dp:((bF p d).code==0)=false:=by simpa using hc
  rw [if_neg hc] at h;rw [dp] at dE;cases h;generalize tok p 0=tk at *;refine ah Tryz.func183 Tryz.ntmps183 ?_;refine U [0] (ht) ?_;refine U [] (CR) ?_;refine U [0] (dE) ?_;refine GW.wk (Wk.cells 1 rfl (ds:=[.v (ii 14),.v (ii tk.at_),.v (ii 0),.v (sv []),.v (.slice none 0 0),.sl 1 []]) iZ) ?_;refine GW.wk (Wk.freeze (i:=1) rfl rfl rfl (Nat.le_of_ble_eq_true rfl)) ?_;exact al
 case pos =>
 have dp:((bF p d).code==0)=true:=by simpa using hc
 rw [if_pos hc] at h;rw [dp,oc hc] at dE;clear hc dp;have lJ:=(bT hp [123]).ok hp;have hw:=eI p [123] x hp
 cases he:iB f (d+1) [] (want p [123]) with
 | none=>rw [he] at h;cases h
 | some r =>
  obtain ⟨l,q1⟩:=r;rw [he] at h;cases h;generalize tok p 0=tk at *;refine ah Tryz.func183 Tryz.ntmps183 ?_;refine U [0] (ht) ?_;refine U [] (CR) ?_;refine U [0] (dE) ?_;refine bC ?_;refine ab ?_;refine U [0] (hw) ?_;refine GW.wk (Wk.Fh (i:=1) (o:=5) 123 1 rfl rfl) ?_;refine GW.loop (fun z:Nat × List T × RS=>z.1) (fun z fr Γ=>∃ n rows,fr=[.loc 0 0,.v (ii (d:Nat)),.any,.any,.any,.loc 1 0,.any,.any,.any,.any,.any,.any,.any,.any,.any,.any,.any,.any,.any,.any,.any,.any,.any,.any,.any,.any,.any,.any,.any,.any,.any,.any,.any,.any,.any,.any,.any,.any,.any,.any,.any,.any,.any,.any,.any]/\Γ=[bE z.2.2 x,.box 149 [.v (ii 14),.v (ii tk.at_),.v (ii 0),.v (sv []),.v (.slice none 0 0),.vec 2 n],.vec 123 1 0 rows]/\rows.length=n/\rows=jS z.2.1/\n+z.1<=f/\z.2.2.ok/\iB z.1 (d+1) z.2.1 z.2.2=some (l,q1)) (f,[],want p [123]) ?_ ?_
  ·exact ⟨_,_,Wk.av aj,0,[],rfl,rfl,rfl,rfl,by simp,lJ,he⟩
  ·clear he lJ hw dE ht;rintro ⟨g,acc,p⟩ _ _ ⟨n,rows,rfl,rfl,hn,bj,zc,hp,h⟩;simp only at bj zc hp h
   cases g with
   | zero=>simp [iB] at h
   | succ g =>
   rw [iB] at h;have hi:=jE p 0 [125] x hp (by decide)
   by_cases hc:p.code=0
   ·have dp:(p.code==0)=true:=by simpa using hc
    cases hs:is p 0 [125] with
    | true =>
     rw [hs] at hi;rw [if_neg (fun hh=>by have:=hh.2;rw [hs] at this;cases this)] at h
     obtain ⟨rfl,rfl⟩:acc=l/\p=q1:=by simpa using h
     have hw:=eI p [125] x hp;subst bj;refine ab ?_;refine U [0] (hi) ?_;refine aS ?_;refine ab ?_;refine bC ?_;refine ab ?_;refine U [0] (hw) ?_;refine GW.wk (Wk.wG (i:=1) (o:=5) rfl rfl rfl rfl hn) ?_;refine GW.wk (Wk.freeze (i:=1) rfl rfl rfl (Nat.le_of_ble_eq_true rfl)) ?_;exact al
    | false =>
     rw [hs] at hi;rw [if_pos ⟨hc,hs⟩] at h
     cases hb:iS g (.stmt (d+1)) p with
     | none=>rw [hb] at h;cases h
     | some r =>
      obtain ⟨a,p2⟩:=r;rw [hb] at h;simp only at h;have di:=((DE g).1 _ _ _ _ hp hb).ok hp;have bq:=(C g (by omega)).stmt (d+1) p a p2 x hp (by omega) hb;refine ab ?_;refine U [0] (hi) ?_;refine GW.draw (.q 0 (.q 1 (.q 2 (.q 3 (.q 4 (.q 5 (.q 6 (.q 7 (.a 8 (.a 9 (.a 10 (.q 11 (.q 12 (.a 13 .nil)))))))))))))) (by kernel_rfl) (by kernel_rfl) ?_;refine ai ?_;refine ax [0] (bq) ?_;refine dk ?_;refine ai ?_;refine sc ?_;refine ai ?_;refine ab ?_;exact ⟨(g,acc++[a],p2),⟨_,_,Wk.av aj,_,_,rfl,rfl,by simp [hn],by rw [vo,bj];rfl,by show n+1+g<=f;omega,di,h⟩,by simp⟩
   ·have dp:(p.code==0)=false:=by simpa using hc
    rw [if_neg (fun hh=>hc hh.1)] at h
    obtain ⟨rfl,rfl⟩:acc=l/\p=q1:=by simpa using h
    have hw:=eI p [125] x hp;subst bj;refine ab ?_;refine aS ?_;refine ab ?_;refine bC ?_;refine ab ?_;refine U [0] (hw) ?_;refine GW.wk (Wk.wG (i:=1) (o:=5) rfl rfl rfl rfl hn) ?_;refine GW.wk (Wk.freeze (i:=1) rfl rfl rfl (Nat.le_of_ble_eq_true rfl)) ?_;exact al
theorem T9 {f:Nat} (C:Po f) (d:Nat) (p:RS) (t:T) (q:RS) (x:PX) (hp:p.ok) (hd:d+3+(f+1)<=1099511627776) (h:iS (f+1) (.stmt d) p=some (t,q)) :
  GF Tryz.prog 213 [.loc 0 0,.v (ii (d:Nat))] [bE p x] (qT t) [bE q x]:=by
 rw [iS] at h;have E:=Wb f;have dE:=vT p d x hp;have ht:=qP p 0 x hp (by decide)
 by_cases hc:(bF p d).code=0
 case neg =>
  have dp:((bF p d).code==0)=false:=by simpa using hc
  rw [if_neg hc] at h;rw [dp] at dE;cases h;refine ah Tryz.func213 Tryz.ntmps213 ?_;refine U [0] (ht) ?_;refine U [0] (dE) ?_;refine U [] (F4) ?_;exact al
 case pos =>
 have dp:((bF p d).code==0)=true:=by simpa using hc
 rw [if_pos hc] at h;rw [dp,oc hc] at dE;clear hc dp;have ct:=hp.2;have CU:=hp.1;have h1:=jE p 0 gn x hp (by decide);have h2:=jE p 0 dI x hp (by decide);have h3:=jE p 0 dr x hp (by decide);have h4:=jE p 0 db x hp (by decide)
 cases eL:is p 0 gn with
 | true =>
  rw [eL] at h1;rw [if_pos eL] at h;have ao:p.i < p.l.length:=is_lt (k:=0) eL;have cW:=(dv ao).ok hp
  have hn:=qv p.next x cW
  have xD:=(gK cW).ok cW;have hw:=eI _ [61] x xD;have lJ:=(bT xD [61]).ok xD
  cases he:iE f (.expr (d+1)) (want (bd p.next) [61]) with
  | none=>rw [he] at h;cases h
  | some r =>
   obtain ⟨e,q1⟩:=r;rw [he] at h;cases h;have p9:=((iP f).1 _ _ _ _ lJ he).ok lJ;have hex:=E.expr (d+1) _ e q1 x lJ (by omega) he;have oo:=eI q1 [59] x p9;have ij:=en 13 (tok p 0).at_ (tok p.next 0).s [e] [[qT e]] (gh _);generalize tok p 0=tk at *
   generalize tok p.next 0=tn at *
   refine ah Tryz.func213 Tryz.ntmps213 ?_;refine U [0] (ht) ?_;refine U [0] (dE) ?_;refine U [0] (h1) ?_;refine U [0] (hn) ?_;refine bC ?_;refine ab ?_;refine U [0] (hw) ?_;refine U [0] (hex) ?_;refine bC ?_;refine ab ?_;refine U [0] (oo) ?_;refine bC ?_;refine ab ?_;refine U [] (ij) ?_;exact al
 | false =>
 rw [eL] at h1;rw [if_neg (by rw [eL];decide)] at h
 have main:∀ bi bw:Bool,is p 0 dI=bi->is p 0 dr=bw->(bi=true\/bw=true)->GF Tryz.prog 213 [.loc 0 0,.v (ii (d:Nat))] [bE p x] (qT t) [bE q x]:=by
  intro bi bw u5 VP vb
  have mI:is p 0 dI=true\/is p 0 dr=true:=by rw [u5,VP];exact vb
  have ao:p.i < p.l.length:=by rcases mI with hh | hh <;> exact is_lt (k:=0) hh
  rw [if_pos mI] at h;have cW:=(dv ao).ok hp
  have hw:=eI p.next [40] x cW
  have lJ:=(bT cW [40]).ok cW
  cases he:iE f (.expr (d+1)) (want p.next [40]) with
  | none=>rw [he] at h;cases h
  | some r =>
  obtain ⟨c,q1⟩:=r;rw [he] at h;simp only at h;have p9:=((iP f).1 _ _ _ _ lJ he).ok lJ;have hex:=E.expr (d+1) _ c q1 x lJ (by omega) he;have oo:=eI q1 [41] x p9;have S7:=(bT p9 [41]).ok p9
  cases hb:iS f (.block (d+1)) (want q1 [41]) with
  | none=>rw [hb] at h;cases h
  | some r =>
  obtain ⟨b,q2⟩:=r;rw [hb] at h;simp only at h;have HD:=((DE f).1 _ _ _ _ S7 hb).ok S7;have Z2:=HD.2;have Z1:=HD.1;have dH:=C.block (d+1) _ b q2 x S7 (by omega) hb;have dQ:=jE q2 0 dY x HD (by decide);rw [u5] at h2;rw [VP] at h3
  cases bi with
  | true =>
   have Jj:∀ (cc ee:Bool),(q2.code==0)=cc->is q2 0 dY=ee->(cc=false\/ee=false)->GF Tryz.prog 213 [.loc 0 0,.v (ii (d:Nat))] [bE p x] (qT t) [bE q x]:=by
    intro cc ee sE wQ S4
    rw [if_neg (fun hh=>by
     rcases S4 with h0 | h0
     ·rw [h0] at sE;have:=hh.2.1;simp [this] at sE
     ·rw [h0] at wQ;rw [wQ] at hh;exact absurd hh.2.2 (by decide)),if_pos u5] at h
    cases h;rw [wQ] at dQ;have ij:=en 9 (tok p 0).at_ [] [c,b] [[qT c],[qT b]] (gh _);generalize tok p 0=tk at *
    cases cc with
    | true =>
     cases ee with
     | true=>simp at S4
     | false =>
      refine ah Tryz.func213 Tryz.ntmps213 ?_;refine U [0] (ht) ?_;refine U [0] (dE) ?_;refine U [0] (h1) ?_;refine U [0] (h2) ?_;refine U [0] (h2) ?_;refine bC ?_;refine ab ?_;refine U [0] (hw) ?_;refine U [0] (hex) ?_;refine ow ?_;refine ab ?_;refine bC ?_;refine ab ?_;refine U [0] (oo) ?_;refine U [0] (dH) ?_;refine ea ?_;refine ab ?_;refine U [0] (dQ) ?_;refine GL.wk (Wk.hY (t:=108) rfl rfl rfl rfl) ?_;refine cS ?_;refine U [] (ij) ?_;exact al
    | false =>
     refine ah Tryz.func213 Tryz.ntmps213 ?_;refine U [0] (ht) ?_;refine U [0] (dE) ?_;refine U [0] (h1) ?_;refine U [0] (h2) ?_;refine U [0] (h2) ?_;refine bC ?_;refine ab ?_;refine U [0] (hw) ?_;refine U [0] (hex) ?_;refine ow ?_;refine ab ?_;refine bC ?_;refine ab ?_;refine U [0] (oo) ?_;refine U [0] (dH) ?_;refine ea ?_;refine ab ?_;refine GL.wk (Wk.hY (t:=108) rfl rfl rfl rfl) ?_;refine cS ?_;refine U [] (ij) ?_;exact al
   by_cases jB:q2.code=0
   ·cases wQ:is q2 0 dY with
    | true =>
     clear Jj;rw [if_pos ⟨u5,jB,wQ⟩] at h;rw [wQ] at dQ
     have sE:(q2.code==0)=true:=by simpa using jB
     have my:q2.i < q2.l.length:=is_lt (k:=0) wQ;have YS:=(dv my).ok HD
     cases eG:iS f (.block (d+1)) q2.next with
     | none=>rw [eG] at h;cases h
     | some r =>
      obtain ⟨b2,q3⟩:=r;rw [eG] at h;cases h;have UK:=C.block (d+1) _ b2 _ x YS (by omega) eG;have ij:=en 9 (tok p 0).at_ [] [c,b,b2] [[qT c],[qT b],[qT b2]] (gh _);generalize tok p 0=tk at *;refine ah Tryz.func213 Tryz.ntmps213 ?_;refine U [0] (ht) ?_;refine U [0] (dE) ?_;refine U [0] (h1) ?_;refine U [0] (h2) ?_;refine U [0] (h2) ?_;refine bC ?_;refine ab ?_;refine U [0] (hw) ?_;refine U [0] (hex) ?_;refine ow ?_;refine ab ?_;refine bC ?_;refine ab ?_;refine U [0] (oo) ?_;refine U [0] (dH) ?_;refine ea ?_;refine ab ?_;refine U [0] (dQ) ?_;refine U [0] (UK) ?_;refine ea ?_;refine ab ?_;refine GL.wk (Wk.hY (t:=108) rfl rfl rfl rfl) ?_;refine cS ?_;refine U [] (ij) ?_;exact al
    | false=>exact Jj true false (by simpa using jB) wQ (.inr rfl)
   ·exact Jj false _ (by simpa using jB) rfl (.inl rfl)
  | false =>
   have WO:bw=true:=by simpa using vb
   subst WO;rw [if_neg (fun hh=>by have:=hh.1;rw [u5] at this;cases this),if_neg (by rw [u5];decide)] at h;cases h;have ij:=en 10 (tok p 0).at_ [] [c,b] [[qT c],[qT b]] (gh _);generalize tok p 0=tk at *;refine ah Tryz.func213 Tryz.ntmps213 ?_;refine U [0] (ht) ?_;refine U [0] (dE) ?_;refine U [0] (h1) ?_;refine U [0] (h2) ?_;refine U [0] (h3) ?_;refine U [0] (h2) ?_;refine bC ?_;refine ab ?_;refine U [0] (hw) ?_;refine U [0] (hex) ?_;refine ow ?_;refine ab ?_;refine bC ?_;refine ab ?_;refine U [0] (oo) ?_;refine U [0] (dH) ?_;refine ea ?_;refine ab ?_;refine GL.wk (Wk.hY (t:=108) rfl rfl rfl rfl) ?_;refine cS ?_;refine U [] (ij) ?_;exact al
 cases gy:is p 0 dI with
 | true=>exact main true _ gy rfl (.inl rfl)
 | false =>
 cases mK:is p 0 dr with
 | true=>exact main false true gy mK (.inr rfl)
 | false =>
 clear main;rw [gy] at h2;rw [mK] at h3;rw [if_neg (by rw [gy,mK];decide)] at h
 cases wU:is p 0 db with
 | true =>
  rw [wU] at h4;rw [if_pos wU] at h;have ao:p.i < p.l.length:=is_lt (k:=0) wU;have cW:=(dv ao).ok hp
  cases he:iE f (.expr (d+1)) p.next with
  | none=>rw [he] at h;cases h
  | some r =>
   obtain ⟨e,q1⟩:=r;rw [he] at h;cases h;have p9:=((iP f).1 _ _ _ _ cW he).ok cW;have hex:=E.expr (d+1) _ e q1 x cW (by omega) he;have oo:=eI q1 [59] x p9;have ij:=en 11 (tok p 0).at_ [] [e] [[qT e]] (gh _);generalize tok p 0=tk at *;refine ah Tryz.func213 Tryz.ntmps213 ?_;refine U [0] (ht) ?_;refine U [0] (dE) ?_;refine U [0] (h1) ?_;refine U [0] (h2) ?_;refine U [0] (h3) ?_;refine U [0] (h4) ?_;refine U [0] (hex) ?_;refine bC ?_;refine ab ?_;refine U [0] (oo) ?_;refine bC ?_;refine ab ?_;refine U [] (ij) ?_;exact al
 | false =>
  rw [wU] at h4;rw [if_neg (by rw [wU];decide)] at h;have Td:=OR (f:=f) d p t q x hp (by omega) h;generalize tok p 0=tk at *;refine ah Tryz.func213 Tryz.ntmps213 ?_;refine U [0] (ht) ?_;refine U [0] (dE) ?_;refine U [0] (h1) ?_;refine U [0] (h2) ?_;refine U [0] (h3) ?_;refine U [0] (h4) ?_;refine U [0] (Td) ?_;exact al
theorem We (f:Nat):Po f:=by
 induction f using Nat.strongRecOn with
 | _ f ih =>
  cases f with
  | zero=>exact ⟨fun d p t q x _ _ h=>by simp [iS] at h,fun d p t q x _ _ h=>by simp [iS] at h⟩
  | succ f =>
   have C:=ih f (Nat.lt_succ_self f)
   have Cs:∀ f',f'<=f->Po f':=fun f' h=>ih f' (Nat.lt_succ_of_le h)
   exact ⟨fun d p t q x hp hd h=>Qz Cs d p t q x hp hd h,fun d p t q x hp hd h=>T9 C d p t q x hp hd h⟩
end Go.Xg
namespace Go.Xg
open Go.RowKit Go.Xw Go.Proofs
open Go.Xp (Tok Nd T aB aw lG dX bL)
attribute [local irreducible] GW GL GO YG GC GA aQ aR
def rH (n:Nd):List GV:=[.v (ii n.kind),.v (ii n.at_),.v (ii n.n),.v (sv n.s),ints n.kids]
def Ch (t:T) (x:Value):List GV:=[.v (ii t.n.kind),.v (ii t.n.at_),.v (ii t.n.n),.v (sv t.n.s),.v x]
theorem KZ:∀ (N:Nat) (t:T),aB t<=N->∀ (n:Nat) (rows:List (List GV)) (a:Option Addr) (c:Nat),rows.length=n->n+aB t<=1099511627776 ->
  GC Tryz.prog 146 [.v (.slice a n c),qT t] [.vech 53 5 rows (.slice a n c)] fun g aD=>∃ a c,g=.v (.slice a (n+aB t) c)/\aD=[.vech 53 5 (rows++(lG n t).map rH) (.slice a (n+aB t) c)]:=by
 intro N
 induction N with
 | zero=>intro t h;rw [Go.Xp.eo] at h;omega
 | succ N ih =>
 intro t hN n rows a c hn hb;subst hn;rw [Go.Xp.eo] at hb hN;have ef:=Go.Xp.cR t.kids;refine ah Tryz.func146 Tryz.ntmps146 ?_;refine GL.qM 0 rfl rfl rfl rfl rfl rfl rfl rfl (by first | rfl | assumption) ⟨⟨by omega,by omega⟩,by decide⟩ ?_;intro a c;refine cS ?_;refine ab ?_;refine GW.wk (Wk.lY 3 1) ?_
 refine GW.range (jS t.kids).length (fun k fr Γ=>∃ a c a2 c2,fr=[.v (.slice a (rows.length+1+aw (t.kids.take k)) c),qT t,.any,.any,.any,.v (ii (rows.length:Nat)),.any,.any,.any,.any,.any,.any,.any,.any,.any,.any,.any,.any,.any,.any,.sl 1 (jS t.kids),.v (ii ((jS t.kids).length:Int)),.v (ii (k:Nat)),.any,.any,.any,.any,.any,.any,.any,.any,.any,.any,.any,.any,.any,.any,.any,.any,.any,.any,.any,.any,.any] /\
  Γ=[.vech 53 5 (rows++Ch t (.slice a2 k c2)::(dX (rows.length+1) (t.kids.take k)).map rH) (.slice a (rows.length+1+aw (t.kids.take k)) c),.vech 3 1 ((bL (rows.length+1) (t.kids.take k)).map fun z=>[.v (ii z)]) (.slice a2 k c2)]) ?_ (by rw [mn];omega) ?_ ?_ ?_
 ·refine ⟨_,_,Wk.av aj,a,c,none,0,rfl,?_⟩;rfl
 ·rintro k _ _ ⟨a,c,a2,c2,rfl,rfl⟩;exact ⟨rfl,rfl,rfl⟩
 ·rintro k _ _ ao ⟨a,c,a2,c2,rfl,rfl⟩;rw [mn] at ao;obtain ⟨xJ,jV⟩:∃ xJ,t.kids[k]?=some xJ:=⟨t.kids[k],by simp [ao]⟩;have hr:=Bf jV;have b6:=Go.Xp.uC jV;have hle:=Go.Xp.uB t.kids (k+1)
  have jR:t.kids.take (k+1)=t.kids.take k++[xJ]:=by rw [take_add_one,jV];rfl
  have hX:((dX (rows.length+1) (t.kids.take k)).map rH).length=aw (t.kids.take k):=by rw [length_map,Go.Xp.yl]
  have oR:((bL (rows.length+1) (t.kids.take k)).map fun z=>[GV.v (ii z)]).length=k:=by rw [length_map,Go.Xp.cQ,List.length_take];omega
  rw [jR,Go.Xp.Jp,Go.Xp.Ho,Go.Xp.mr];simp only [bL,dX,aw,List.append_nil,Nat.add_zero,map_append,List.map_cons,map_nil,<-Nat.add_assoc]
  have CQ:=fun (rs:List (List GV)) a c h=>ih xJ (by omega) (rows.length+1+aw (t.kids.take k)) rs a c h (by omega)
  generalize (dX (rows.length+1) (t.kids.take k)).map rH=X at *;generalize ((bL (rows.length+1) (t.kids.take k)).map fun z=>[GV.v (ii z)])=ks at *;generalize aw (t.kids.take k)=s at *;subst oR
  have ko:∀ r:List GV,(rows++r::X).length=rows.length+1+s:=fun r=>by simp;omega
  have bj:(rows++Ch t (.slice a2 ks.length c2)::X)[rows.length]?=some (Ch t (.slice a2 ks.length c2)):=by simp
  have fb:=ko (Ch t (.slice a2 ks.length c2));unfold Ch at bj fb |-;refine ab ?_;refine GL.qM 1 rfl rfl rfl rfl rfl rfl rfl rfl (by first | rfl | assumption) ⟨⟨by omega,by omega⟩,by decide⟩ ?_;intro a3 c3;refine cS ?_;refine ab ?_;refine ox ?_;rw [Fv];simp only [bg];refine ab ?_;refine b9 [0] (CQ _ _ _ (ko _)) ?_;rintro _ _ ⟨a4,c4,rfl,rfl⟩;refine cU ?_;refine ab ?_;refine ⟨rfl,rfl,_,_,Wk.av aj,a4,c4,a3,c3,rfl,?_⟩;rw [append_assoc];rfl
 ·rintro _ _ ⟨a,c,a2,c2,rfl,rfl⟩;rw [mn,take_length];rw [Go.Xp.eo,Go.Xp.KX]
  have oR:((bL (rows.length+1) t.kids).map fun z=>[GV.v (ii z)]).length=t.kids.length:=by rw [length_map,Go.Xp.cQ]
  have re:ints (bL (rows.length+1) t.kids)=.sl 1 ((bL (rows.length+1) t.kids).map fun z=>[GV.v (ii z)]):=rfl;rw [List.map_cons];simp only [rH,Ch];rw [re,show rows.length+(aw t.kids+1)=rows.length+1+aw t.kids by omega];generalize (dX (rows.length+1) t.kids).map rH=X at *;generalize ((bL (rows.length+1) t.kids).map fun z=>[GV.v (ii z)])=ks at *;generalize aw t.kids=s at *
  have bj:∀ r:List GV,(rows++r::X)[rows.length]?=some r:=fun r=>by simp
  refine aJ ?_;apply GW.wk
  ·apply Wk.JT (i:=0) (idx:=rows.length) (o:=4) (j:=1)
   ·rfl
   ·exact bj _
   ·rfl
   ·rfl
   ·rfl
  rw [Fv];simp only [bg];refine ab ?_;refine bI ?_;exact ⟨_,_,rfl,rfl⟩
end Go.Xg
namespace Go.Xg
open Go.RowKit Go.Xw Go.Proofs
open Go.Xp (Tok Nd T aZ one levels gn dI dY dr db kY mg n8 Ar)
open Go.Sp Go.Im
attribute [local irreducible] GW GL GO YG GC GA aQ aR
structure HW where
 aT:Option Addr
 cT:Nat
 aG:Option Addr
 cG:Nat
 aA:Option Addr
 cA:Nat
 aF:Option Addr
 cF:Nat
def qz (x:Ar):List GV:=[.v (sv x.name),.v (ii x.size)]
def pM (x:ae × List ae):List GV:=[.v (sv x.1),strs x.2,.v (ii 0)]
def kR (x:ae):List GV:=[.v (sv x)]
abbrev hx (st:PS) (h:HW):PX:=⟨.slice h.aT st.trees.length h.cT,.slice h.aG st.globals.length h.cG,.slice h.aA st.arrays.length h.cA,.slice h.aF st.fns.length h.cF,.slice none 0 0⟩
abbrev uu (p:RS) (st:PS) (h:HW):List Ob:=[bE p (hx st h),.vech 123 1 (jS st.trees) (.slice h.aT st.trees.length h.cT),.vech 9 1 (st.globals.map kR) (.slice h.aG st.globals.length h.cG),.vech 86 2 (st.arrays.map qz) (.slice h.aA st.arrays.length h.cA),.vech 85 3 (st.fns.map pM) (.slice h.aF st.fns.length h.cF)]
theorem wq {α β:Type} (g:α->β) (l:List α) (x:α):(l++[x]).map g=l.map g++[g x]:=by simp
theorem M4 {f:Nat} (p:RS) (st:PS) (h:HW) (q:RS) (dN:PS) (n:Nat) (hp:p.ok) (hn:st.le n) (hb:n+1<=1099511627776) (hs:is p 0 kY=true) (hw:iW f p st=some (q,dN)) :
  GC Tryz.prog 145 [.loc 0 0] (uu p st h) (fun g aD=>g=.tup []/\∃ h',aD=uu q dN h'):=by
 obtain ⟨CU,ct⟩:=id hp;obtain ⟨EA,bH,YI,YJ⟩:=hn;unfold iW at hw;rw [if_pos hs] at hw;have hi:=jE p 0 kY (hx st h) hp (by decide);rw [hs] at hi;have ik:=(jo hs).ok hp
 have ek:=qv p.next (hx st h) ik
 have di:=(gK ik).ok ik;generalize (tok p.next 0).s=s at *
 generalize bd p.next=p2 at *
 have rJ:=jE p2 0 [91] (hx st h) di (by decide)
 have ZD:¬ (p2.code=0/\is p2 0 [91]=true)->True:=fun _=>trivial
 cases hc:(p2.code==0) with
 | false =>
  have dp:¬ p2.code=0:=by simpa using hc
  rw [if_neg (fun hh=>dp hh.1)] at hw;cases hw
  have xu:(st.globals.map kR).length+1=(st.globals++[s]).length:=by simp
  have oQ:st.globals.map kR++[[GV.v (sv s)]]=(st.globals++[s]).map kR:=by simp [kR]
  have hlen:(st.globals.map kR).length+1<=1099511627776:=by simp;omega
  refine ah Tryz.func145 Tryz.ntmps145 ?_;refine U [0] (hi) ?_;refine U [0] (ek) ?_;refine GL.qM 2 rfl rfl rfl rfl rfl rfl rfl rfl (by first | rfl | assumption) ⟨⟨by omega,by omega⟩,by decide⟩ ?_;intro a c;refine cS ?_;rw [xu,oQ];refine ab ?_;refine bC ?_;refine ab ?_;refine U [0] (eI p2 [59] (hx { st with globals:=st.globals++[s] } { h with aG:=a,cG:=c }) di) ?_;refine cl ?_;exact ⟨rfl,{ h with aG:=a,cG:=c },rfl⟩
 | true =>
  have dp:p2.code=0:=by simpa using hc
  cases eG:is p2 0 [91] with
  | false =>
   rw [eG] at rJ;rw [if_neg (fun hh=>by have:=hh.2;rw [eG] at this;cases this)] at hw;cases hw
   have xu:(st.globals.map kR).length+1=(st.globals++[s]).length:=by simp
   have oQ:st.globals.map kR++[[GV.v (sv s)]]=(st.globals++[s]).map kR:=by simp [kR]
   have hlen:(st.globals.map kR).length+1<=1099511627776:=by simp;omega
   refine ah Tryz.func145 Tryz.ntmps145 ?_;refine U [0] (hi) ?_;refine U [0] (ek) ?_;refine U [0] (rJ) ?_;refine GL.qM 2 rfl rfl rfl rfl rfl rfl rfl rfl (by first | rfl | assumption) ⟨⟨by omega,by omega⟩,by decide⟩ ?_;intro a c;refine cS ?_;rw [xu,oQ];refine ab ?_;refine bC ?_;refine ab ?_;refine U [0] (eI p2 [59] (hx { st with globals:=st.globals++[s] } { h with aG:=a,cG:=c }) di) ?_;refine cl ?_;exact ⟨rfl,{ h with aG:=a,cG:=c },rfl⟩
  | true =>
   rw [eG] at rJ;rw [if_pos ⟨dp,eG⟩] at hw;have ze:=(jo eG).ok di;have ZV:=di.1;have S5:=di.2;have ZW:=ze.1;have ZX:=ze.2
   have ht:=qP p2.next 0 (hx st h) ze (by decide)
   have EP:=yI p2.next (hx st h) ze
   have Ek:(tok p2.next 0).kind=1->p2.next.next.ok:=fun hk=>(dv (rz (p:=p2.next) (k:=0) (by rw [hk];decide))).ok ze
   generalize tok p2.next 0=tk at *
   by_cases hk:tk.kind=1
   ·rw [if_pos hk] at hw;cases hw
    have ln:(tk.kind != 1)=false:=by simpa using hk
    have PR:=Ek hk;have ZY:=PR.1
    have EN:=eI p2.next.next [93] (hx st h) PR
    have YP:=(bT PR [93]).ok PR
    generalize want p2.next.next [93]=p5 at *
    have xu:(st.arrays.map qz).length+1=(st.arrays++[(⟨s,tk.n⟩:Ar)]).length:=by simp
    have oQ:st.arrays.map qz++[[GV.v (sv s),.v (ii tk.n)]]=(st.arrays++[(⟨s,tk.n⟩:Ar)]).map qz:=by simp [qz]
    have hlen:(st.arrays.map qz).length+1<=1099511627776:=by simp;omega
    refine ah Tryz.func145 Tryz.ntmps145 ?_;refine U [0] (hi) ?_;refine U [0] (ek) ?_;refine U [0] (rJ) ?_;refine U [0] (ht) ?_;refine bC ?_;refine ab ?_;refine U [0] (EN) ?_;refine GW.draw (.q 0 (.q 1 (.q 2 (.q 3 (.q 4 (.q 5 (.q 6 (.q 7 (.q 8 (.q 9 (.a 10 (.a 11 (.q 12 (.q 13 (.q 14 (.a 15 .nil)))))))))))))))) (by kernel_rfl) (by kernel_rfl) ?_;refine ai ?_;refine dk ?_;refine ai ?_;refine OA rfl rfl (GL.nW 3 rfl rfl rfl (by first | rfl | assumption) rfl rfl (by refine ⟨?_,?_⟩;(· show _+1<=_;omega);(· show (_+1) * _<=_;omega)) ?_);intro a c;refine c8 ?_;generalize hX:chunk 1 2 _=X
    obtain rfl:X=[qz ⟨s,tk.n⟩]:=by rw [<-hX];rfl
    clear hX
    try (generalize hX:chunk 1 2 _=X;obtain rfl:X=[qz ⟨s,tk.n⟩]:=by rw [<-hX];rfl)
    rw [show (st.arrays.map qz).length+[qz ⟨s,tk.n⟩].length=(st.arrays++[(⟨s,tk.n⟩:Ar)]).length by simp,<-wq qz st.arrays ⟨s,tk.n⟩];refine ai ?_;refine ab ?_;refine bC ?_;refine ab ?_;refine U [0] (eI p5 [59] (hx { st with arrays:=st.arrays++[⟨s,tk.n⟩] } { h with aA:=a,cA:=c }) YP) ?_;refine cl ?_;exact ⟨rfl,{ h with aA:=a,cA:=c },rfl⟩
   ·rw [if_neg hk] at hw;cases hw
    have ln:(tk.kind != 1)=true:=by simpa using hk
    refine ah Tryz.func145 Tryz.ntmps145 ?_;refine U [0] (hi) ?_;refine U [0] (ek) ?_;refine U [0] (rJ) ?_;refine U [0] (ht) ?_;refine U [0] (EP) ?_;refine cl ?_;exact ⟨rfl,h,rfl⟩
end Go.Xg
namespace Go.Xg
open Go.RowKit Go.Xw Go.Proofs
open Go.Xp (Tok Nd T aZ one levels gn dI dY dr db kY mg n8 Ar)
open Go.Sp Go.Im
attribute [local irreducible] GW GL GO YG GC GA aQ aR
theorem J5 {f:Nat} (p:RS) (st:PS) (h:HW) (q:RS) (dN:PS) (hp:p.ok) (hs:is p 0 kY=false) (gy:is p 0 mg=false) (hw:iW f p st=some (q,dN)) :
  GC Tryz.prog 145 [.loc 0 0] (uu p st h) (fun g aD=>g=.tup []/\∃ h',aD=uu q dN h'):=by
 unfold iW at hw;rw [if_neg (by rw [hs];decide),if_neg (by rw [gy];decide)] at hw;cases hw;have hi:=jE p 0 kY (hx st h) hp (by decide);have rJ:=jE p 0 mg (hx st h) hp (by decide);have EP:=yI p (hx st h) hp;rw [hs] at hi;rw [gy] at rJ;refine ah Tryz.func145 Tryz.ntmps145 ?_;refine U [0] (hi) ?_;refine U [0] (rJ) ?_;refine U [0] (EP) ?_;refine cl ?_;exact ⟨rfl,h,rfl⟩
abbrev UA (p:RS) (st:PS) (h:HW) (s:ae) (acc:List ae) (a:Option Addr) (c:Nat):List Ob:=uu p st h++[.box 85 [.v (sv s),.v (.slice a acc.length c),.v (ii 0)],.vech 9 1 (acc.map kR) (.slice a acc.length c)]
theorem J6 {f:Nat} (p:RS) (st:PS) (h:HW) (q:RS) (dN:PS) (n:Nat) (hp:p.ok) (hn:st.le n) (hb:n+f+4<=1099511627776) (vc:is p 0 kY=false) (hs:is p 0 mg=true) (hw:iW f p st=some (q,dN)) :
  GC Tryz.prog 145 [.loc 0 0] (uu p st h) (fun g aD=>g=.tup []/\∃ h',aD=uu q dN h'):=by
 obtain ⟨CU,ct⟩:=id hp;obtain ⟨EA,bH,YI,YJ⟩:=hn;unfold iW at hw;rw [if_neg (by rw [vc];decide),if_pos hs] at hw;have SR:=jE p 0 kY (hx st h) hp (by decide);rw [vc] at SR;have hi:=jE p 0 mg (hx st h) hp (by decide);rw [hs] at hi;have ik:=(jo hs).ok hp
 have ek:=qv p.next (hx st h) ik
 have di:=(gK ik).ok ik;generalize (tok p.next 0).s=s at *
 generalize bd p.next=p2 at *
 have oo:=eI p2 [40] (hx st h) di;have ze:=(bT di [40]).ok di;generalize want p2 [40]=p3 at *
 cases hm:oq f [] p3 with
 | none=>rw [hm] at hw;cases hw
 | some r =>
 obtain ⟨l,q1⟩:=r;rw [hm] at hw;simp only at hw;refine ah Tryz.func145 Tryz.ntmps145 ?_;refine U [0] (SR) ?_;refine U [0] (hi) ?_;refine U [0] (ek) ?_;refine bC ?_;refine ab ?_;refine U [0] (oo) ?_;refine GW.wk (Wk.lY 9 1) ?_;refine GW.loop (fun z:Nat × List ae × RS=>z.1) (fun z fr Γ=>∃ a c,fr=[.loc 0 0,.any,.any,.any,.loc 5 0,.any,.any,.any,.any,.any,.any,.any,.any,.any,.any,.any,.any,.any,.any,.any,.any,.any,.any,.any,.any,.any,.any,.any,.any,.any,.any,.any,.any,.any,.any,.any,.any,.any,.any,.any,.any,.any,.any,.any,.any,.any,.any,.any,.any,.any,.any,.any,.any,.any,.any,.any,.any,.any,.any,.any,.any,.any,.any,.any,.any,.any,.any,.any,.any,.any,.any,.any,.any,.any,.any,.any,.any,.any,.any,.any,.any,.any,.any,.any,.any,.any,.any,.any,.any,.any,.any,.any,.any,.any,.any,.any,.any,.any,.any,.any,.any,.any,.any,.any,.any,.any,.any,.any,.any,.any,.any,.any,.any,.any,.any,.any,.any,.any,.any,.any,.any,.any,.any,.any,.any,.any,.any,.any,.any,.any,.any,.any,.any,.any,.any,.any,.any,.any,.any,.any,.any,.any,.any,.any,.any,.any,.any,.any,.any,.any,.any,.any,.any]/\Γ=UA z.2.2 st h s z.2.1 a c/\z.2.2.ok/\z.2.1.length+z.1<=f/\oq z.1 z.2.1 z.2.2=some (l,q1)) (f,[],p3) ?_ ?_
 ·exact ⟨_,_,Wk.av aj,none,0,rfl,rfl,ze,by simp,hm⟩
 clear hm ze oo di ek hi SR ik;rintro ⟨g,acc,p⟩ _ _ ⟨a,c,rfl,rfl,hp,zc,hm⟩;simp only at hp zc hm
 cases g with
 | zero=>cases hm
 | succ g =>
 rw [oq] at hm;have hi:=jE p 0 [41] (hx st h) hp (by decide)
 by_cases hgo:p.code=0/\is p 0 [41]=false
 ·obtain ⟨hc,mK⟩:=id hgo;rw [if_pos hgo] at hm;rw [mK] at hi
  have dp:(p.code==0)=true:=by simpa using hc
  by_cases h0:acc.length=0
  ·obtain rfl:=List.eq_nil_of_length_eq_zero h0
   have hd:decide ((0:Int) < (([]:List ae).length:Int))=false:=by decide
   rw [if_pos (by rfl)] at hm;have ek:=qv p (hx st h) hp;have di:=(gK hp).ok hp;generalize (tok p 0).s=s2 at *;refine ab ?_;refine U [0] (hi) ?_;refine GW.draw (.q 0 (.q 1 (.q 2 (.a 3 (.a 4 (.a 5 (.q 6 (.a 7 .nil)))))))) (by kernel_rfl) (by kernel_rfl) ?_;refine ai ?_;refine ax [0] (ek) ?_;refine dk ?_;refine ai ?_;refine OA rfl rfl (GL.nW 6 (news:=[kR s2]) rfl rfl rfl (by first | rfl | assumption) rfl rfl (by refine ⟨?_,?_⟩;(· show _+1<=_;omega);(· show (_+1) * _<=_;omega)) ?_);intro a2 c2;refine c8 ?_;refine ai ?_;refine ab ?_;exact ⟨(g,[s2],bd p),⟨_,_,Wk.av aj,a2,c2,rfl,rfl,di,by simp at zc |-;omega,hm⟩,by simp⟩
  ·have hd:decide ((0:Int) < (acc.length:Int))=true:=by simpa using by omega
   rw [if_neg h0] at hm;have Y2:=eI p [44] (hx st h) hp;have lJ:=(bT hp [44]).ok hp;generalize want p [44]=pw at *;have ek:=qv pw (hx st h) lJ;have di:=(gK lJ).ok lJ;generalize (tok pw 0).s=s2 at *
   have hlen:(acc.map kR).length<=f:=by simp;omega
   refine ab ?_;refine U [0] (hi) ?_;refine bC ?_;refine ab ?_;refine U [0] (Y2) ?_;refine GW.draw (.q 0 (.q 1 (.q 2 (.a 3 (.a 4 (.a 5 (.q 6 (.a 7 .nil)))))))) (by kernel_rfl) (by kernel_rfl) ?_;refine ai ?_;refine ax [0] (ek) ?_;refine dk ?_;refine ai ?_;refine OA rfl rfl (GL.nW 6 (news:=[kR s2]) rfl rfl rfl (by first | rfl | assumption) rfl rfl (by refine ⟨?_,?_⟩;(· show _+1<=_;omega);(· show (_+1) * _<=_;omega)) ?_);intro a2 c2;refine c8 ?_
   try rw [show (acc.map kR).length+1=(acc++[s2]).length by simp]
   rw [show (acc.map kR).length+[kR s2].length=(acc++[s2]).length by simp,<-wq kR acc s2];refine ai ?_;refine ab ?_;exact ⟨(g,acc++[s2],bd pw),⟨_,_,Wk.av aj,a2,c2,rfl,rfl,di,by simp;omega,hm⟩,by simp⟩
 ·rw [if_neg hgo] at hm
  obtain ⟨rfl,rfl⟩:acc=l/\want p [41]=q1:=by simpa using hm
  clear hm;have PW:=eI p [41] (hx st h) hp;have VX:=(bT hp [41]).ok hp
  have fb:(jS st.trees).length+1<=1099511627776:=by rw [mn];omega
  have ko:(st.fns.map pM).length+1<=1099511627776:=by simp;omega
  by_cases hc:p.code=0
  ·have dp:(p.code==0)=true:=by simpa using hc
   have mK:is p 0 [41]=true:=by
    cases h3:is p 0 [41] with
    | true=>rfl
    | false=>exact absurd ⟨hc,h3⟩ hgo
   rw [mK] at hi
   by_cases hqc:(want p [41]).code=0
   ·have NX:((want p [41]).code==0)=true:=by simpa using hqc
    rw [if_pos hqc] at hw
    cases ej:iS f (.block 1) (want p [41]) with
    | none=>rw [ej] at hw;cases hw
    | some r =>
    obtain ⟨t,qq⟩:=r;rw [ej] at hw
    obtain ⟨rfl,rfl⟩:qq=q/\_=dN:=by simpa using hw
    have dH:=(We f).block 1 _ t qq (hx st h) VX (by omega) ej;clear ej hqc;generalize want p [41]=pq at *;refine ab ?_;refine U [0] (hi) ?_;refine aS ?_;refine ab ?_;refine bC ?_;refine ab ?_;refine U [0] (PW) ?_;refine GW.draw (.q 0 (.q 1 (.q 2 (.q 3 (.q 4 (.q 5 (.a 6 (.a 7 (.a 8 (.q 9 (.q 10 (.a 11 .nil)))))))))))) (by kernel_rfl) (by kernel_rfl) ?_;refine ai ?_;refine ax [0] (dH) ?_;refine dk ?_;refine ai ?_;refine OA rfl rfl (GL.nW 1 (news:=[[qT t]]) rfl rfl rfl (by first | rfl | assumption) rfl rfl (by refine ⟨?_,?_⟩;(· show _+1<=_;omega);(· show (_+1) * _<=_;omega)) ?_);intro a3 c3;refine c8 ?_
    try rw [show (jS st.trees).length+1=(st.trees++[t]).length by simp [mn]]
    rw [show (jS st.trees).length+[[qT t]].length=(st.trees++[t]).length by simp [mn],<-vo st.trees t];refine ai ?_;refine ab ?_;apply GW.wk
    ·apply Wk.yD (i:=5) (o:=1) (j:=6)
     ·rfl
     ·rfl
     ·rfl
     ·rfl
    simp only [oset,bg];refine GW.draw (.q 0 (.q 1 (.q 2 (.q 3 (.q 4 (.q 5 (.q 6 (.a 7 (.a 8 (.q 9 (.q 10 (.q 11 (.a 12 .nil))))))))))))) (by kernel_rfl) (by kernel_rfl) ?_;refine ai ?_;refine dk ?_;refine ai ?_;refine OA rfl rfl (GL.nW 4 (news:=[pM (s,acc)]) rfl rfl rfl (by first | rfl | assumption) rfl rfl (by refine ⟨?_,?_⟩;(· show _+1<=_;omega);(· show (_+1) * _<=_;omega)) ?_);intro a4 c4;refine c8 ?_
    try rw [show (st.fns.map pM).length+1=(st.fns++[(s,acc)]).length by simp]
    rw [show (st.fns.map pM).length+[pM (s,acc)].length=(st.fns++[(s,acc)]).length by simp,<-wq pM st.fns (s,acc)];refine ai ?_;refine ab ?_;refine cl ?_;exact ⟨rfl,{ h with aT:=a3,cT:=c3,aF:=a4,cF:=c4 },rfl⟩
   ·have NX:((want p [41]).code==0)=false:=by simpa using hqc
    rw [if_neg hqc] at hw;cases hw;clear hqc;generalize want p [41]=pq at *;refine ab ?_;refine U [0] (hi) ?_;refine aS ?_;refine ab ?_;refine bC ?_;refine ab ?_;refine U [0] (PW) ?_;refine cl ?_;exact ⟨rfl,h,rfl⟩
  ·have dp:(p.code==0)=false:=by simpa using hc
   by_cases hqc:(want p [41]).code=0
   ·have NX:((want p [41]).code==0)=true:=by simpa using hqc
    rw [if_pos hqc] at hw
    cases ej:iS f (.block 1) (want p [41]) with
    | none=>rw [ej] at hw;cases hw
    | some r =>
    obtain ⟨t,qq⟩:=r;rw [ej] at hw
    obtain ⟨rfl,rfl⟩:qq=q/\_=dN:=by simpa using hw
    have dH:=(We f).block 1 _ t qq (hx st h) VX (by omega) ej;clear ej hqc;generalize want p [41]=pq at *;refine ab ?_;refine aS ?_;refine ab ?_;refine bC ?_;refine ab ?_;refine U [0] (PW) ?_;refine GW.draw (.q 0 (.q 1 (.q 2 (.q 3 (.q 4 (.q 5 (.a 6 (.a 7 (.a 8 (.q 9 (.q 10 (.a 11 .nil)))))))))))) (by kernel_rfl) (by kernel_rfl) ?_;refine ai ?_;refine ax [0] (dH) ?_;refine dk ?_;refine ai ?_;refine OA rfl rfl (GL.nW 1 (news:=[[qT t]]) rfl rfl rfl (by first | rfl | assumption) rfl rfl (by refine ⟨?_,?_⟩;(· show _+1<=_;omega);(· show (_+1) * _<=_;omega)) ?_);intro a3 c3;refine c8 ?_
    try rw [show (jS st.trees).length+1=(st.trees++[t]).length by simp [mn]]
    rw [show (jS st.trees).length+[[qT t]].length=(st.trees++[t]).length by simp [mn],<-vo st.trees t];refine ai ?_;refine ab ?_;apply GW.wk
    ·apply Wk.yD (i:=5) (o:=1) (j:=6)
     ·rfl
     ·rfl
     ·rfl
     ·rfl
    simp only [oset,bg];refine GW.draw (.q 0 (.q 1 (.q 2 (.q 3 (.q 4 (.q 5 (.q 6 (.a 7 (.a 8 (.q 9 (.q 10 (.q 11 (.a 12 .nil))))))))))))) (by kernel_rfl) (by kernel_rfl) ?_;refine ai ?_;refine dk ?_;refine ai ?_;refine OA rfl rfl (GL.nW 4 (news:=[pM (s,acc)]) rfl rfl rfl (by first | rfl | assumption) rfl rfl (by refine ⟨?_,?_⟩;(· show _+1<=_;omega);(· show (_+1) * _<=_;omega)) ?_);intro a4 c4;refine c8 ?_
    try rw [show (st.fns.map pM).length+1=(st.fns++[(s,acc)]).length by simp]
    rw [show (st.fns.map pM).length+[pM (s,acc)].length=(st.fns++[(s,acc)]).length by simp,<-wq pM st.fns (s,acc)];refine ai ?_;refine ab ?_;refine cl ?_;exact ⟨rfl,{ h with aT:=a3,cT:=c3,aF:=a4,cF:=c4 },rfl⟩
   ·have NX:((want p [41]).code==0)=false:=by simpa using hqc
    rw [if_neg hqc] at hw;cases hw;clear hqc;generalize want p [41]=pq at *;refine ab ?_;refine aS ?_;refine ab ?_;refine bC ?_;refine ab ?_;refine U [0] (PW) ?_;refine cl ?_;exact ⟨rfl,h,rfl⟩
end Go.Xg
