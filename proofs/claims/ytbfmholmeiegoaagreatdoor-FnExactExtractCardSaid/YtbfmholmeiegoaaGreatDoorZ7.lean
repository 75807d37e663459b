/- Part 7 of proofs that are told in their last texts. -/
import Derived.Test.YtbfmholmeiegoaaGreatDoorZ4
import Derived.ProofKit
import Derived.Below
import Derived.ChangeSame
import Derived.Test.YtbfmholmeiegoaaGreatDoorZ5
import Derived.Lib.Builder
import Derived.Lib.UnsafeStr
import Derived.Shelf.Strings.Builder1
import Derived.Shelf.Strings.Builder2
import Derived.Shelf.Small.Strs
import Derived.Shelf.Strings.BuilderF
import Derived.Shelf.Strconv.Itoa0
import Derived.Shelf.Strconv.Itoa1
import Derived.Shelf.LaysM
import Derived.Shelf.Strconv.Itoa2
import Derived.Shelf.Strconv.Itoa3
import Derived.Shelf.Strings.Search1
import Derived.Shelf.Strings.Search2
import Derived.Shelf.Strings.Search3
import Derived.Shelf.Strings.Shaped
import Derived.Shelf.Sort.Plain
import Derived.Shelf.Strings.Prefix
import Derived.Shelf.Strings.Fields
import Derived.Shelf.Strings.SplitShaped
import Derived.Shelf.Unicode.Latin
import Derived.Shelf.Unicode.Is16White
import Derived.Shelf.Unicode.IsSpaceAny
import Derived.Shelf.Unicode.Is16Any
import Derived.Shelf.Unicode.Is32Any
import Derived.Shelf.Unicode.ExclAny
import Derived.Ground.Names2Prog
import Derived.Shelf.Slices.CompactI
import Derived.Shelf.Slices.In.SortNone
import Derived.Test.YtbfmholmeiegoaaGreatDoorProg
import Derived.Test.YtbfmholmeiegoaaGreatDoorZ1
import Derived.Test.YtbfmholmeiegoaaGreatDoorZ2
import Derived.Test.YtbfmholmeiegoaaGreatDoorZ6
import Derived.Laws.StructEq
open List (ext_getElem getD_cons_succ getD_cons_zero getElem?_mapIdx getElem_mem length_cons length_nil map_nil mem_singleton sum_cons)
set_option linter.unusedVariables false
set_option linter.unusedSimpArgs false
set_option maxRecDepth 100000
namespace Go
theorem zcB {A:Prop} (s:A:=by refine zaP ?_;refine GW.wk (Wk.wK (i:=1) (o:=5) rfl rfl rfl rfl hn) ?_;refine GW.wk (Wk.freeze (i:=1) rfl rfl rfl (dr rfl)) ?_;exact al):A:=s
theorem zd3 {A B:Prop} (h:B) (s:PLift B->A:=by intro hQ;refine D ?_;refine aL (aE 0 11 .nil) ?_;refine bo ?_;rw [vl];refine GW.wk (Wk.freeze (i:=0) rfl rfl rfl (aD _)) ?_;exact hQ.1):A:=s ⟨h⟩
theorem zef {A:Prop} (s:A:=by refine GW.ret ?_;refine rR (n:=1) rfl cJ rfl (aO _) rfl rfl ?_;exact zai):A:=s
theorem zeB {A:Prop} (s:A:=by refine zaP ?_;refine GW.wk (Wk.iy (t:=4) rfl rfl rfl hn) ?_;exact al):A:=s
end Go
namespace Go.Xw
open Go.RowKit Go.WideShapes Go.ChangeShapes
section
variable {H:Type} {enc:TypeId × Value->H} {P:Program}
theorem Gj {f:Func} {s:ChangeSpec} {apart fresh handsOn again:Bool} {W W':World} {args:Array Value} {v:Value} {ds gs:List (DataW H)} {before pa pv:List MemPlace}
  (hW:DataW.Whole enc P f.params.toList s.vars apart W args.toList ds gs before)
  (Yf:∀ (b:Nat) (sp:Nat->Bool) (hd:Bool),DataW.TrodAll enc P W' b sp hd f.resultTypes.toList (v.resultList f.resultTypes.size) (s.fn H (ds++gs)).results [])
  (C9:∀ sp:Nat->Bool,(∀ p∈before,sp p.block=true)->DataW.TrodAll enc P W' 0 sp true f.params.toList args.toList (s.fn H (ds++gs)).args pa)
  (Uv:∀ sp:Nat->Bool,(∀ p∈before,sp p.block=true)->DataW.TrodVars enc P W' sp s.vars (s.fn H (ds++gs)).vars pv)
  (FA:before=pa++pv) (hb:Below W.heap.size W W')
  (fo:∀ (j:Nat) (t:TypeId) (r:Value),f.resultTypes[j]?=some t->(v.resultList f.resultTypes.size)[j]?=some r->Value.okWide P W' .any 0 t r) :
  s.post enc P f apart fresh handsOn again W args v W':=by
 have aj:∀ p∈before,p.block < W.heap.size:=fun p hp=>hW.lt p hp
 have hold:∀ p∈before,(fun b=>decide (b < W.heap.size)) p.block=true:=fun p hp=>by simpa using aj p hp
 refine ⟨ds,gs,before,[],pa,pv,hW,Yf _ _ _,C9 _ hold,Uv _ hold,World.keptBut_mono (fun p hp=>⟨hp,?_⟩) (hb.frame (·∈before)),fun _=>?_⟩
 ·rw [FA,List.mem_append] at hp;exact Or.inr hp
 ·obtain ⟨_,_,_,_,_,hz,hn⟩:=hW;refine ⟨fo,_,_,([]++pa)++pv,⟨[]++pa,pv,trodAll_append (C9 _ (fun _ _=>rfl)) (Yf _ _ _),Uv _ (fun _ _=>rfl),rfl,?_,?_⟩,?_⟩
  ·intro b off hp
   have eZ:MemPlace.cell b off∈before:=by rw [FA];simpa using hp
   rw [hb.frozen (aj _ eZ)];exact hz b off eZ
  ·intro ha;have:=hn ha;rw [FA] at this;exact zb8
  ·intro p hp _;rw [FA];simpa using hp
end
end Go.Xw
namespace Go.Xg
open Go.RowKit Go.Xw
class DX (P:Program) (t:TypeId):Prop where
 und:∃ e j,P.underlying t=some (.pointer e)/\P.info? e=some j
theorem DX.mk' {P:Program} {t e:TypeId} (h:P.underlying t=some (.pointer e)) (k:(P.info? e).isSome=true):DX P t:=⟨e,(P.info? e).get k,h,by simp⟩
section
variable {P:Program} {m:Nat} {Q:dG} {fr:List GV} {Γ:List Ob} {ops:Array Oper} {rest:List Oper} {d:Option Tmp} {op:Op} {ty:TypeId} {pos:String} {af:Array Edge}
theorem YG.CZ {x y:Operand} {t t':TypeId} [hT:DX P t] {i o:Nat} (hx:be fr x=.loc i o) (hy:be fr y=.v (.pointer none)):YG P (.binOp .eql t x y t') fr Γ (.v (.bool false)):=fun B K β w l hI hF=>by
 have h:=hF.ev x;rw [hx] at h;generalize hv:ev l x=v at h
 cases h with
 | loc _ _ b hb =>
  obtain ⟨e,j,I,M⟩:=hT.und
  have hp:P.pointee t=e:=by simp [Program.pointee,I]
  have:=run_eql_pointer_nil (P:=P) w t (some ⟨b,o,none⟩) (by rw [hp];exact I);refine ⟨_,fun d ty pos af=>?_,.v _⟩;simp [execOp,eqGuard,hv,hF.kq hy,this]
theorem YG.DB {x y:Operand} {t t':TypeId} [hT:DX P t] {i o:Nat} (hx:be fr x=.loc i o) (hy:be fr y=.loc i o):YG P (.binOp .neq t x y t') fr Γ (.v (.bool false)):=fun B K β w l hI hF=>by
 have h:=hF.ev x;rw [hx] at h;have h':=hF.ev y;rw [hy] at h';generalize hv:ev l x=v at h;generalize Dp:ev l y=v' at h'
 cases h with
 | loc _ _ b hb =>
  cases h' with
  | loc _ _ b' bA =>
   rw [hb] at bA;cases bA;obtain ⟨e,j,I,M⟩:=hT.und;have:=Lib.run_neq_ptr_same (P:=P) w ⟨b,o,none⟩ I M;refine ⟨_,fun d ty pos af=>?_,.v _⟩;simp [execOp,eqGuard,hv,Dp,this]
theorem Inv.again {B:Bs} {K:Fz} {β:Bt} {Γ:List Ob} {w w':World} {i E k:Nat} {rows:List (List GV)} {x:Value} {xs:List Value} (h:Inv B K β Γ w) (hi:Γ[i]?=some (.vech E k rows x)) (ho:jg w' 0 E k x rows.length xs) (hr:bm K β xs rows.flatten)
  (hx:Ext (fun b=>x.ownBlock=some b) w w'):Inv B K β Γ w':=by
 obtain ⟨xs0,I,M,h3,h4,h5⟩:=h.ob i _ hi
 have eT:∀ b,x.ownBlock=some b->(β i).blk=some b:=fun b hb=>by rw [I];exact hb
 refine ⟨h.ext.step hx (fun j hj=>(h.own i j (eT j hj)).symm),h.kle,h.ble,h.loc,h.fz.ext hx (fun b o g hg he=>by rw [h5 b he o] at hg;cases hg),fun j y hj=>?_,h.out,h.dis,h.own,h.kn,h.tab.step hx (fun j hj=>⟨i,eT j hj⟩) (cV.refl K) (fun i b2 h=>.inl ⟨i,h⟩)⟩
 by_cases qg:j=i
 ·subst qg;rw [hi] at hj;cases hj;exact ⟨xs,I,ho,hr,h4,h5⟩
 ·exact (h.ob j y hj).ext hx (fun b hb he=>qg (h.dis j i b hb (eT b he))) (cV.refl K) (dF.refl β) rfl (fun _ _ _ h=>h)
theorem GL.Zw {s x:Operand} {t u e:Nat} [hT:EX P t e] [hU:rK P u] (i:Nat) {n:Nat} {dt:Tmp} {v:Value} {rows:List (List GV)} {str:ae} (hx:be fr x=.v (sv str)) (hs:be fr s=.v v) (bJ:Γ[i]?=some (.vech e 1 rows v)) (hn:rows.length=n) (cn:str.isEmpty=false)
  (hb:n+str.length<=140737488355328)
  (h:∀ a c,GL P m ops Q rest (bC fr (some dt) (.v (.slice a (n+str.length) c))) (oset Γ i (.vech e 1 (rows++cY str) (.slice a (n+str.length) c)))) :
  GL P m ops Q (⟨some dt,.call ⟨.builtin .append,#[s,x],#[t,u]⟩,ty,pos,af,none⟩::rest) fr Γ:=fun B K β w l hm hI hF=>by
 subst hn
 have cn:str≠[]:=by intro h0;rw [h0] at cn;cases cn
 obtain ⟨xs,o1,o2,o3,o4,o5⟩:=hI.ob i _ bJ;have sJ:ev l s=v:=hF.kq hs
 have iG:(cY str).flatten=str.map fun c=>GV.v (.int .u8 (c.toNat:Int)):=by
  unfold cY;clear hx cn hb h;generalize str=s
  induction s with
  | nil=>rfl
  | cons c r ih=>simp only [List.map_cons,List.flatten_cons,ih];rfl
 have hlen:(cY str).length=str.length:=by simp [cY]
 refine WL.DY (base:=0) (v:=v) (n:=rows.length) (xs:=xs) (str:=str) sJ o2 (hF.kq hx) hb (aO _) ?_;intro v' w' how ji wo xt
 obtain ⟨K',hK,sK,bz⟩:=(hI.AA bJ).grow (fz:=0) (qX bJ) o1 ⟨o2,o3⟩ (news:=cY str) (ns:=mh str) (by rw [hlen];exact how) ji wo (by rw [iG];exact (by
   have:(str.map fun c=>GV.v (.int .u8 (c.toNat:Int)))=mH (mh str):=by simp [mH,mh]
   rw [this];exact bm.self)) (fun r hr=>by
   simp only [cY,oX] at hr;obtain ⟨c,_,rfl⟩:=hr
   exact ⟨rfl,fun g hg=>by rw [mem_singleton] at hg;subst hg;rfl⟩) (by intro h0;exact cn (List.map_eq_nil_iff.1 h0)) (fun b bA o v ho hv=>by omega)
 rw [<-bg,pD] at bz;obtain ⟨a,c,rT,rj⟩:=bz.vq (qX bJ);rw [pD] at rj;obtain ⟨a',c',rfl⟩:=how.shape;rw [bG] at rT;simp only [aM,hlen] at rT rj sK;cases rT;exact zeA
theorem GL.Zv {s x:Operand} {t u e:Nat} [hT:EX P t e] [hU:rK P u] (i:Nat) {rows:List (List GV)} {v:Value} (hx:be fr x=.v (sv [])) (hs:be fr s=.v v) (bJ:Γ[i]?=some (.vech e 1 rows v)) (hb:rows.length<=140737488355328)
  (h:GL P m ops Q rest (bC fr d (.v v)) Γ):GL P m ops Q (⟨d,.call ⟨.builtin .append,#[s,x],#[t,u]⟩,ty,pos,af,none⟩::rest) fr Γ:=fun B K β w l hm hI hF=>by
 obtain ⟨xs,o1,o2,o3,o4,o5⟩:=hI.ob i _ bJ;have sJ:=hF.kq hs;have tX:=hF.kq hx;obtain ⟨hu,i',hi,hz,cX,zL⟩:=hT.is;have xw:(⟨([]:ae).toArray⟩:ByteArray).size=0:=rfl;obtain ⟨v',w',hr,M,h3,h4⟩:=Lib.run_append_own_string (P:=P) w 0 t u ty e i' hu hU.und hi hz cX zL v rows.length xs o2 ⟨([]:ae).toArray⟩ (by rw [xw];simp only [maxLen];omega) (by rw [xw];omega) (aO _)
 have Dp:v'=v:=by
  rcases o2.2 with ⟨rfl,h6⟩ | ⟨g,cap,cur,rfl,pk,hg,qB,y9,fk,Dm⟩
  ·exact h4.2 ⟨rfl,rfl⟩
  ·have XN:cur.size=cap:=by simpa using fk
   have eh:=Lib.run_append_room_string (P:=P) w t u ty e i' hu hU.und hi cX g rows.length cap cur hg ⟨([]:ae).toArray⟩ (by rw [xw];omega) (by unfold maxLen at y9;rw [xw];omega);rw [hr] at eh;cases eh;rfl
 subst Dp;have oJ:(Builtin.append_ #[t,u] ty #[v',sv []]).run P w=.ok v' w':=hr;have fk:Lib.strCells ⟨([]:ae).toArray⟩=[]:=rfl;rw [fk,bO] at M;have ji:Ext (fun b=>v'.ownBlock=some b) w w':=⟨h3.os,h3.tape,h3.output,h3.size,fun j hj hn=>h3.block j hj fun he=>hn he.symm⟩;have bz:=hI.again bJ M o3 ji;exact WL.val (v:=v') (w':=w') zgc (h B K β w' _ hm bz (hF.put d (.v _)))
theorem YG.xT {x:Operand} {t:TypeId} (i:Nat) {E n c:Nat} {a:Option Addr} {rows:List (List GV)} (hx:be fr x=.v (.slice a n c)) (bJ:Γ[i]?=some (.vech E 1 rows (.slice a n c))) (hn:rows.length=n) (hp:Nat.blt 0 n=true) :
  YG P (.call ⟨.builtin .unsafeSliceData,#[x],#[t]⟩) fr Γ (.vp i n 1 0 0):=fun B K β w l hI hF=>by
 subst hn
 have hp:0 < rows.length:=by simpa using hp
 obtain ⟨xs,I,M,h3,h4,h5⟩:=hI.ob i _ bJ;have hv:=hF.kq hx
 rcases M.2 with ⟨h8,h9⟩ | ⟨g,cap,cur,h8,_,hg,qB,_⟩
 ·omega
 ·cases h8
  have hr:=fun ts ty=>Lib.run_unsafeSliceData_row (P:=P) (w:=w) ts ty ⟨g,0,none⟩ rows.length c G
  exact ⟨.pointer (some ⟨g,0,none⟩),fun d ty pos af=>by simp [execOp,resolve,invoke,builtin,hv,hr],.vp i _ 1 0 0 _ ⟨_,_,I,aD _,fun _=>⟨g,rfl,by simp⟩⟩⟩
theorem GL.Q0 {x y:Operand} {pt it e:TypeId} (i:Nat) {str:ae} {rows:List (List GV)} {v:Value} (hp:P.underlying pt=some (.pointer e)) (hc:P.cellsOf e=1) (hx:be fr x=.vp i str.length 1 0 0) (hy:be fr y=.v (ii str.length)) (bJ:Γ[i]?=some (.vech e 1 rows v)) (ni:rows=cY str)
  (cn:str.isEmpty=false) (hb:str.length<=140737488355328)
  (h:GL P m ops Q rest (bC fr d (.v (sv str))) (oset Γ i .lost)):GL P m ops Q (⟨d,.call ⟨.builtin .unsafeString,#[x,y],#[pt,it]⟩,ty,pos,af,none⟩::rest) fr Γ:=fun B K β w l hm hI hF=>by
 have cn:str≠[]:=by intro h0;rw [h0] at cn;cases cn
 subst ni;obtain ⟨xs,o1,o2,o3,o4,o5⟩:=hI.ob i _ bJ
 have hlen:(cY str).length=str.length:=by simp [cY]
 have hr:=hF.ev x;rw [hx] at hr;have Yn:=hF.kq hy;generalize hv:ev l x=u at hr
 cases hr with
 | vp _ _ _ _ _ _ hh =>
  obtain ⟨h0,mm,e1,e2,e3⟩:=hh;rw [e1] at o1;cases o1;obtain ⟨b,Ug,rfl⟩:=e3 hlen
  rcases o2.2 with ⟨h8,h9⟩ | ⟨g,cap,cur,h8,_,hg,qB,y9,fk,Dm⟩
  ·rw [hlen] at h9;exact absurd (gC h9) cn
  ·subst h8;simp only [Value.ownBlock,Option.some.injEq] at Ug;subst Ug
   have rv:xs=mh str:=by
    have iG:(cY str).flatten=mH (mh str):=by
     have:(cY str).flatten=str.map fun c=>GV.v (.int .u8 (c.toNat:Int)):=by
      unfold cY;generalize str=s
      induction s with
      | nil=>rfl
      | cons c r ih=>simp only [List.map_cons,List.flatten_cons,ih];rfl
     rw [this];simp [mH,mh]
    rw [iG] at o3;apply ext_getElem
    ·have:=o3.1;simpa [mH] using this
    ·intro j I M;have:=o3.2 j xs[j] (.v (mh str)[j]) (by simp [I]) (by simp [mH,M]);exact Rel.fF this
   have ng:∀ j y,str[j]?=some y->w.cell? ((⟨g,0,none⟩:Addr).add j)=some (.int .u8 y.toNat):=fun j y hy=>by
    have:=World.ownsRow.cells (g:=g) o2 rfl j (.int .u8 y.toNat) (by rw [rv];simp [mh,hy]);exact this
   have acb:(cY str).length<=cur.size:=by rw [fk];omega
   have oJ:=Lib.run_unsafeString_row (P:=P) w pt it ty e hp hc g cur.size (by simp [World.shape?,hg]) str cn G G ng
   have ji:Ext (·=g) w (w.freeze ⟨g,0,none⟩ str.length):=by
    have:=Lib.below_freeze (Below.refl 0 w) (p:=⟨g,0,none⟩) (aO g) str.length
    exact ⟨this.os,this.tape,this.output,this.size,fun k hk hn=>by
     unfold World.freeze;split
     ·rfl
     ·simp only [Array.getElem?_modify]
      rw [F (fun he=>hn he.symm)]⟩
   have eT:(β i).blk=some g:=by rw [e1];rfl
   have bz:Inv B K β (oset Γ i .lost) (w.freeze ⟨g,0,none⟩ str.length):=by
    refine ⟨hI.ext.step ji (fun j hj=>by subst hj;exact (hI.own i _ eT).symm),hI.kle,hI.ble,hI.loc,hI.fz.ext ji (fun b o g' nw he=>by subst he;rw [o5 _ rfl o] at nw;cases nw),fun j y hj=>?_,fun j hj=>hI.out j zgp,hI.dis,hI.own,hI.kn,hI.tab.step ji (fun j hj=>⟨i,by subst hj;exact eT⟩) (cV.refl K) (fun i b2 h=>.inl ⟨i,h⟩)⟩;rw [bg,dN] at hj;split at hj
    ·rename_i gJ;split at hj
     ·cases hj;subst gJ
      intro b bA;rw [eT] at bA;cases bA;have:=ua hg;exact y5 this ji.size
     ·cases hj
    ·rename_i gJ;exact (hI.ob j y hj).ext ji (fun b hb he=>by subst he;exact gJ (hI.dis i j _ eT hb)) (cV.refl K) (dF.refl β) rfl (fun _ _ _ h=>h)
   exact WL.val (v:=sv str) (w':=w.freeze ⟨g,0,none⟩ str.length) (by simp [execOp,resolve,invoke,builtin,hv,Yn,oJ,sv]) (h B K β _ _ hm bz (hF.put d (.v _)))
theorem Inv.TP {B:Bs} {K:Fz} {β:Bt} {Γ:List Ob} {w:World} {x:Bk} {y:Ob} (h:Inv B K β Γ w) (hd:∀ b,x.blk=some b->(∀ i,(β i).blk≠some b)/\B.w0.heap.size<=b/\(b≠3/\b≠1))
  (ho:lZ K (gk β Γ.length x) w Γ.length y) (hold:dF β (gk β Γ.length x)):Inv B K (gk β Γ.length x) (Γ++[y]) w:=by
 refine ⟨h.ext,h.kle,h.ble.trans hold,h.loc,h.fz,fun i z hi=>?_,fun i hi=>?_,fun i j b hi hj=>?_,fun i b hi=>?_,h.kn,⟨h.tab.le,h.tab.pow,h.tab.spc,fun i b hi=>?_⟩⟩
 ·by_cases sG:i < Γ.length
  ·rw [eR sG] at hi;exact zcY
  ·have:i=Γ.length:=by have:=(bq hi).1;simp at this;omega
   subst this;simp at hi;subst hi;exact ho
 ·simp at hi;rw [b9 G];exact h.out i G
 ·by_cases I:i=Γ.length <;> by_cases M:j=Γ.length
  ·omega
  ·subst I;rw [bG] at hi;rw [b9 M] at hj;exact absurd hj ((hd b hi).1 j)
  ·subst M;rw [bG] at hj;rw [b9 I] at hi;exact absurd hi ((hd b hj).1 i)
  ·rw [b9 I] at hi;rw [b9 M] at hj;exact h.dis i j b hi hj
 ·rcases nS hi with I | I
  ·exact .inr (hd b I).2.1
  ·exact h.own i b I
 ·rcases nS hi with I | I
  ·exact (hd b I).2.2
  ·exact h.tab.free i b I
theorem YG.aax {x lo:Operand} {t e:TypeId} {k:Nat} [hT:oP P t e k] {rows:List (List GV)} {kk:IntKind} {i:Nat} (hx:be fr x=.sl k rows) (iR:be fr lo=.v (.int kk i)) (hi:Nat.blt i rows.length=true):YG P (.slice t x (some lo) none none) fr Γ (.sl k (rows.drop i)):=fun B K β w l hI hF=>by
 have hi:i < rows.length:=by simpa using hi
 have h:=hF.ev x;rw [hx] at h;have KJ:=hF.kq iR;generalize hv:ev l x=v at h
 cases h with
 | sl0 a c=>simp at hi
 | sl b o c _ _ h hc =>
  refine ⟨.slice (some ⟨b,o+i * k,none⟩) (rows.length - i) (c - i),fun d ty pos af=>?_,?_⟩
  ·have qf:¬ (c=i):=by omega
   have hle:(i:Int)<=(rows.length:Int):=by omega
   simp [execOp,Instr.sliceAt,Instr.slice,Instr.sliceBounds,Instr.sliceBound,asIntOf,hv,KJ,run_underlying hT.und,kj hT.siz,qf,Nat.le_of_lt hi,rM]
  ·have:=Rel.sl (K:=K) (β:=β) b (o+i * k) (c - i) k (rows.drop i) (fun j r hr=>?_) zgb
   ·rw [jy] at this;exact this
   ·rw [List.getElem?_drop] at hr;refine ⟨(h (i+j) r hr).1,fun q g hg=>?_⟩;have:=(h (i+j) r hr).2 q g hg;rw [Nat.add_mul] at this;rw [show o+i * k+j * k+q=o+(i * k+j * k)+q by omega];exact this
theorem YG.Aw {x lo:Operand} {t e:TypeId} {k:Nat} [hT:oP P t e k] {rows:List (List GV)} {kk:IntKind} {n:Int} (i:Nat) (hx:be fr x=.sl k rows) (iR:be fr lo=.v (.int kk n)) (hn:n=(i:Int)) (hi:Nat.blt i rows.length=true):YG P (.slice t x (some lo) none none) fr Γ (.sl k (rows.drop i)):=by
 subst hn;exact YG.aax hx iR hi
end
end Go.Xg
namespace Go.Proofs
open Go.Shelf
theorem dd {α:Type} {a:Option α} {b c:α} (h:a=some b) (k:b=c:=by kernel_rfl):a=some c:=h.trans (congrArg some k)
def Tryz.BK:Go.Shelf.Ren:=⟨fun | 165=>194 | 240=>238 | 241=>239 | 276=>268 | 277=>269 | n=>n,fun | 70=>202 | 3=>3 | 0=>0 | 4=>4 | 9=>9 | 20=>20 | 72=>204 | 37=>157 | 164=>262 | 5=>5 | n=>n,fun | n=>n⟩
theorem Tryz.VR:Go.Proofs.Lays.n165 Tryz.prog Tryz.BK:={
 mixed:=by kernel_rfl
 f165:=dd Tryz.func194
 f240:=dd Tryz.func238
 f241:=dd Tryz.func239
 f276:=dd Tryz.func268
 f277:=dd Tryz.func269
 t0:=Tryz.underlying0
 a0:=Tryz.isAgg0
 z0:=Tryz.sizeOf0
 v0:=Tryz.zeroValue0
 t3:=Tryz.underlying3
 a3:=Tryz.isAgg3
 z3:=Tryz.sizeOf3
 v3:=Tryz.zeroValue3
 t4:=Tryz.underlying4
 a4:=Tryz.isAgg4
 z4:=Tryz.sizeOf4
 v4:=Tryz.zeroValue4
 t9:=Tryz.underlying9
 a9:=Tryz.isAgg9
 z9:=Tryz.sizeOf9
 v9:=Tryz.zeroValue9
 t20:=Tryz.underlying20
 a20:=Tryz.isAgg20
 z20:=Tryz.sizeOf20
 v20:=Tryz.zeroValue20
 t37:=Tryz.underlying157
 a37:=Tryz.isAgg157
 z37:=Tryz.sizeOf157
 v37:=Tryz.zeroValue157
 t70:=Tryz.underlying202
 a70:=Tryz.isAgg202
 z70:=Tryz.sizeOf202
 v70:=Tryz.zeroValue202
 t72:=Tryz.underlying204
 a72:=Tryz.isAgg204
 z72:=Tryz.sizeOf204
 v72:=Tryz.zeroValue204
 t164:=Tryz.underlying262
 a164:=Tryz.isAgg262
 z164:=Tryz.sizeOf262
 v164:=Tryz.zeroValue262 }
theorem Tryz.Bf:Builder.Extra Tryz.prog Tryz.BK:={
 sizeBuilder:=by kernel_rfl
 liesBuilder:=by kernel_rfl
 t5:=Tryz.underlying5
 a5:=Tryz.isAgg5
 z5:=Tryz.sizeOf5
 v5:=Tryz.zeroValue5
 infoByte:=by kernel_rfl
 cellsByte:=by kernel_rfl
 sizeByte:=by kernel_rfl
 neB5:=by decide }
open Go.RowKit in
theorem Tryz.Builder_Grow_fresh (B b n:Nat) (w:World) (hB:B<=b) (eT:w.heap[b]?=some (.cells #[.pointer none,.slice none 0 0] 204 (0,0))) (hBw:B<=w.heap.size) (hn:n<=281474976710656) :
  Calls Tryz.prog 194 #[.pointer (some ⟨b,0,none⟩),.int .i64 n] w fun e w'=>e=.returned (.tuple #[])/\(Lib.BuilderAt 204 5 B b (.pointer (some ⟨b,0,none⟩)) [] w'/\Below B w w'):=Any.Builder_Grow_fresh Tryz.VR Tryz.Bf B b n w hB eT hBw hn
def Tryz.JH:Go.Shelf.Ren:=⟨fun | 137=>164 | 217=>201 | 266=>241 | n=>n,fun | 9=>9 | 5=>5 | 3=>3 | n=>n,fun | n=>n⟩
theorem Tryz.VP:Go.Proofs.Lays.n137 Tryz.prog Tryz.JH:={
 mixed:=by kernel_rfl
 f137:=dd Tryz.func164
 f217:=dd Tryz.func201
 f266:=dd Tryz.func241
 t3:=Tryz.underlying3
 a3:=Tryz.isAgg3
 z3:=Tryz.sizeOf3
 v3:=Tryz.zeroValue3
 t5:=Tryz.underlying5
 a5:=Tryz.isAgg5
 z5:=Tryz.sizeOf5
 v5:=Tryz.zeroValue5
 t9:=Tryz.underlying9
 a9:=Tryz.isAgg9
 z9:=Tryz.sizeOf9
 v9:=Tryz.zeroValue9 }
open Go.RowKit in
theorem Tryz.strings_IndexByte (s:ByteArray) (c:Int) (w:World) :
  Calls Tryz.prog 164 #[.string s,.int .u8 c] w fun e w'=>e=.returned (.int .i64 (Lib.indexByte s.data.toList c.toNat.toUInt8))/\w'=w:=Any.strings_IndexByte Tryz.VP s c w
def Tryz.H3:Go.Shelf.Ren:=⟨fun | 171=>157 | 243=>193 | 246=>237 | 283=>264 | 284=>265 | 285=>266 | 286=>267 | 129=>221 | 317=>278 | 318=>279 | 319=>280 | 320=>281 | 337=>287 | 338=>288 | n=>n,fun | 3=>3 | 9=>9 | 2=>2 | 4=>4 | 171=>258 | 0=>0 | 53=>231 | 37=>157 | 5=>5 | 173=>260 | 212=>275 | 51=>229 | 20=>20 | 213=>276 | 46=>192 | 232=>293 | 233=>294 | n=>n,fun | 17=>3 | 18=>4 | 19=>5 | n=>n⟩
theorem Tryz.SJ:Go.Proofs.LaysM.n171 Tryz.prog Tryz.H3:={
 mixed:=by kernel_rfl
 f129:=dd Tryz.func221
 f171:=dd Tryz.func157
 f243:=dd Tryz.func193
 f246:=dd Tryz.func237
 f283:=dd Tryz.func264
 f284:=dd Tryz.func265
 f285:=dd Tryz.func266
 f286:=dd Tryz.func267
 f317:=dd Tryz.func278
 f318:=dd Tryz.func279
 f319:=dd Tryz.func280
 f320:=dd Tryz.func281
 f337:=dd Tryz.func287
 f338:=dd Tryz.func288
 t0:=Tryz.underlying0
 a0:=Tryz.isAgg0
 z0:=Tryz.sizeOf0
 v0:=Tryz.zeroValue0
 t2:=Tryz.underlying2
 a2:=Tryz.isAgg2
 z2:=Tryz.sizeOf2
 v2:=Tryz.zeroValue2
 t3:=Tryz.underlying3
 a3:=Tryz.isAgg3
 z3:=Tryz.sizeOf3
 v3:=Tryz.zeroValue3
 t4:=Tryz.underlying4
 a4:=Tryz.isAgg4
 z4:=Tryz.sizeOf4
 v4:=Tryz.zeroValue4
 t5:=Tryz.underlying5
 a5:=Tryz.isAgg5
 z5:=Tryz.sizeOf5
 v5:=Tryz.zeroValue5
 t9:=Tryz.underlying9
 a9:=Tryz.isAgg9
 z9:=Tryz.sizeOf9
 v9:=Tryz.zeroValue9
 t20:=Tryz.underlying20
 a20:=Tryz.isAgg20
 z20:=Tryz.sizeOf20
 v20:=Tryz.zeroValue20
 t37:=Tryz.underlying157
 a37:=Tryz.isAgg157
 z37:=Tryz.sizeOf157
 v37:=Tryz.zeroValue157
 t46:=Tryz.underlying192
 a46:=Tryz.isAgg192
 z46:=Tryz.sizeOf192
 v46:=Tryz.zeroValue192
 t51:=Tryz.underlying229
 a51:=Tryz.isAgg229
 z51:=Tryz.sizeOf229
 v51:=Tryz.zeroValue229
 t53:=Tryz.underlying231
 a53:=Tryz.isAgg231
 z53:=Tryz.sizeOf231
 v53:=Tryz.zeroValue231
 t171:=Tryz.underlying258
 a171:=Tryz.isAgg258
 z171:=Tryz.sizeOf258
 v171:=Tryz.zeroValue258
 t173:=Tryz.underlying260
 a173:=Tryz.isAgg260
 z173:=Tryz.sizeOf260
 v173:=Tryz.zeroValue260
 t212:=Tryz.underlying275
 a212:=Tryz.isAgg275
 z212:=Tryz.sizeOf275
 v212:=Tryz.zeroValue275
 t213:=Tryz.underlying276
 a213:=Tryz.isAgg276
 z213:=Tryz.sizeOf276
 t232:=Tryz.underlying293
 a232:=Tryz.isAgg293
 z232:=Tryz.sizeOf293
 v232:=Tryz.zeroValue293
 t233:=Tryz.underlying294
 a233:=Tryz.isAgg294
 z233:=Tryz.sizeOf294
 v233:=Tryz.zeroValue294
 g17:=by kernel_rfl
 g18:=by kernel_rfl
 g19:=by kernel_rfl
 i0:=by kernel_rfl
 i2:=by kernel_rfl
 i3:=by kernel_rfl
 i4:=by kernel_rfl
 i5:=by kernel_rfl
 i9:=by kernel_rfl
 i20:=by kernel_rfl
 i37:=by kernel_rfl
 i46:=by kernel_rfl
 i51:=by kernel_rfl
 i53:=by kernel_rfl
 i171:=by kernel_rfl
 i173:=by kernel_rfl
 i212:=by kernel_rfl
 i232:=by kernel_rfl
 i233:=by kernel_rfl
 m17:=by kernel_rfl
 m18:=by kernel_rfl
 m19:=by kernel_rfl }
open Go.RowKit Go.Sort Go.Lib in
theorem Tryz.strconv_Itoa (n:Int) (h0 : -9223372036854775808<=n) (I:n<=9223372036854775807) (w:World) (Cm:Lib.TabIs Tryz.prog w "internal/strconv.uint64pow10" .u64 Lib.pow10Tab) :
  Calls Tryz.prog 157 #[.int .i64 n] w fun e w'=>e=.returned (.string ⟨(Lib.itoa n).toArray⟩)/\∃ k os,w'=grow (w.drewN k) os:=Any.strconv_Itoa Tryz.SJ n h0 I w Cm
def Tryz.JI:Go.Shelf.Ren:=⟨fun | 143=>166 | 219=>203 | 217=>201 | 225=>242 | 224=>243 | 267=>244 | 266=>241 | 314=>270 | n=>n,fun | 9=>9 | 3=>3 | 4=>4 | 5=>5 | 46=>192 | 146=>265 | 51=>229 | n=>n,fun | 1=>0 | n=>n⟩
theorem Tryz.VQ:Go.Proofs.Lays.n143 Tryz.prog Tryz.JI:={
 mixed:=by kernel_rfl
 f143:=dd Tryz.func166
 f217:=dd Tryz.func201
 f219:=dd Tryz.func203
 f224:=dd Tryz.func243
 f225:=dd Tryz.func242
 f266:=dd Tryz.func241
 f267:=dd Tryz.func244
 f314:=dd Tryz.func270
 t3:=Tryz.underlying3
 a3:=Tryz.isAgg3
 z3:=Tryz.sizeOf3
 v3:=Tryz.zeroValue3
 t4:=Tryz.underlying4
 a4:=Tryz.isAgg4
 z4:=Tryz.sizeOf4
 v4:=Tryz.zeroValue4
 t5:=Tryz.underlying5
 a5:=Tryz.isAgg5
 z5:=Tryz.sizeOf5
 v5:=Tryz.zeroValue5
 t9:=Tryz.underlying9
 a9:=Tryz.isAgg9
 z9:=Tryz.sizeOf9
 v9:=Tryz.zeroValue9
 t46:=Tryz.underlying192
 a46:=Tryz.isAgg192
 z46:=Tryz.sizeOf192
 v46:=Tryz.zeroValue192
 t51:=Tryz.underlying229
 a51:=Tryz.isAgg229
 z51:=Tryz.sizeOf229
 v51:=Tryz.zeroValue229
 t146:=Tryz.underlying265
 a146:=Tryz.isAgg265
 z146:=Tryz.sizeOf265
 v146:=Tryz.zeroValue265
 g1:=by kernel_rfl }
open Go.RowKit Go.Lib in
theorem Tryz.strings_Index (s sub:ByteArray) (m:Int) (w:World) (hs:s.size < 4294967281) (hm:w.cell? ⟨0,0,none⟩=some (.int .i64 m)) :
  Calls Tryz.prog 166 #[.string s,.string sub] w fun e w'=>e=.returned (.int .i64 (Lib.index s.data.toList sub.data.toList))/\w'=w:=Any.strings_Index Tryz.VQ s sub m w hs hm
def Tryz.JJ:Go.Shelf.Ren:=⟨fun | 189=>133 | 125=>175 | 257=>174 | 128=>220 | 129=>221 | 294=>211 | 295=>212 | 296=>213 | 297=>214 | 298=>215 | 299=>216 | 216=>217 | 300=>218 | 301=>219 | 328=>249 | 329=>250 | 330=>251 | 331=>252 | 332=>253 | 215=>254 | 343=>273 | n=>n,fun | 28=>60 | 3=>3 | 46=>192 | 0=>0 | 51=>229 | 53=>231 | 4=>4 | 183=>221 | 182=>220 | 131=>226 | 5=>5 | 9=>9 | 218=>247 | 222=>251 | 228=>267 | 229=>86 | n=>n,fun | n=>n⟩
theorem Tryz.KZ:Go.Proofs.Lays.n189 Tryz.prog Tryz.JJ:={
 mixed:=by kernel_rfl
 f125:=dd Tryz.func175
 f128:=dd Tryz.func220
 f129:=dd Tryz.func221
 f189:=dd Tryz.func133
 f215:=dd Tryz.func254
 f216:=dd Tryz.func217
 f257:=dd Tryz.func174
 f294:=dd Tryz.func211
 f295:=dd Tryz.func212
 f296:=dd Tryz.func213
 f297:=dd Tryz.func214
 f298:=dd Tryz.func215
 f299:=dd Tryz.func216
 f300:=dd Tryz.func218
 f301:=dd Tryz.func219
 f328:=dd Tryz.func249
 f329:=dd Tryz.func250
 f330:=dd Tryz.func251
 f331:=dd Tryz.func252
 f332:=dd Tryz.func253
 f343:=dd Tryz.func273
 t0:=Tryz.underlying0
 a0:=Tryz.isAgg0
 z0:=Tryz.sizeOf0
 v0:=Tryz.zeroValue0
 t3:=Tryz.underlying3
 a3:=Tryz.isAgg3
 z3:=Tryz.sizeOf3
 v3:=Tryz.zeroValue3
 t4:=Tryz.underlying4
 a4:=Tryz.isAgg4
 z4:=Tryz.sizeOf4
 v4:=Tryz.zeroValue4
 t5:=Tryz.underlying5
 a5:=Tryz.isAgg5
 z5:=Tryz.sizeOf5
 v5:=Tryz.zeroValue5
 t9:=Tryz.underlying9
 a9:=Tryz.isAgg9
 z9:=Tryz.sizeOf9
 v9:=Tryz.zeroValue9
 t28:=Tryz.underlying60
 a28:=Tryz.isAgg60
 z28:=Tryz.sizeOf60
 v28:=Tryz.zeroValue60
 t46:=Tryz.underlying192
 a46:=Tryz.isAgg192
 z46:=Tryz.sizeOf192
 v46:=Tryz.zeroValue192
 t51:=Tryz.underlying229
 a51:=Tryz.isAgg229
 z51:=Tryz.sizeOf229
 v51:=Tryz.zeroValue229
 t53:=Tryz.underlying231
 a53:=Tryz.isAgg231
 z53:=Tryz.sizeOf231
 v53:=Tryz.zeroValue231
 t131:=Tryz.underlying226
 a131:=Tryz.isAgg226
 z131:=Tryz.sizeOf226
 v131:=Tryz.zeroValue226
 t182:=Tryz.underlying220
 a182:=Tryz.isAgg220
 z182:=Tryz.sizeOf220
 v182:=Tryz.zeroValue220
 t183:=Tryz.underlying221
 a183:=Tryz.isAgg221
 z183:=Tryz.sizeOf221
 v183:=Tryz.zeroValue221
 t218:=Tryz.underlying247
 a218:=Tryz.isAgg247
 z218:=Tryz.sizeOf247
 v218:=Tryz.zeroValue247
 t222:=Tryz.underlying251
 a222:=Tryz.isAgg251
 z222:=Tryz.sizeOf251
 v222:=Tryz.zeroValue251
 t228:=Tryz.underlying267
 a228:=Tryz.isAgg267
 z228:=Tryz.sizeOf267
 v228:=Tryz.zeroValue267
 t229:=Tryz.underlying86
 a229:=Tryz.isAgg86
 z229:=Tryz.sizeOf86
 v229:=Tryz.zeroValue86 }
open Go.Sort Go.RowKit in
theorem Tryz.slices_Sort_int (blk off cap:Nat) (zs:List Int) (w:World) (hH:Holds (Value.int .i64) w blk off zs.toArray) (dY:blk < w.heap.size) (cX:zs.length < 4611686018427387904) :
  Calls Tryz.prog 133 #[.slice (some ⟨blk,off,none⟩) zs.length cap] w fun e w' =>
   e=.returned (.tuple #[])/\∃ n os,w'=grow (putRow (Value.int .i64) (Sort.ahead w n) blk off (zs.mergeSort fun x y=>decide (x<=y)).toArray) os:=Any.slices_Sort_int Tryz.KZ blk off cap zs w hH dY cX
def Tryz.H0:Go.Shelf.Ren:=⟨fun | 157=>223 | 229=>256 | 199=>257 | 261=>274 | 311=>283 | 312=>284 | n=>n,fun | 9=>9 | 31=>22 | 3=>3 | 5=>5 | 4=>4 | 119=>253 | 0=>0 | 40=>255 | 152=>269 | 21=>21 | 154=>271 | 51=>229 | 141=>273 | 196=>281 | 193=>278 | 198=>284 | 49=>282 | 194=>279 | 201=>287 | 226=>290 | 46=>192 | 227=>291 | n=>n,fun | 0=>1 | 6=>2 | n=>n⟩
theorem Tryz.SI:Go.Proofs.LaysM.n157 Tryz.prog Tryz.H0:={
 mixed:=by kernel_rfl
 f157:=dd Tryz.func223
 f199:=dd Tryz.func257
 f229:=dd Tryz.func256
 f261:=dd Tryz.func274
 f311:=dd Tryz.func283
 f312:=dd Tryz.func284
 t0:=Tryz.underlying0
 a0:=Tryz.isAgg0
 z0:=Tryz.sizeOf0
 v0:=Tryz.zeroValue0
 t3:=Tryz.underlying3
 a3:=Tryz.isAgg3
 z3:=Tryz.sizeOf3
 v3:=Tryz.zeroValue3
 t4:=Tryz.underlying4
 a4:=Tryz.isAgg4
 z4:=Tryz.sizeOf4
 v4:=Tryz.zeroValue4
 t5:=Tryz.underlying5
 a5:=Tryz.isAgg5
 z5:=Tryz.sizeOf5
 v5:=Tryz.zeroValue5
 t9:=Tryz.underlying9
 a9:=Tryz.isAgg9
 z9:=Tryz.sizeOf9
 v9:=Tryz.zeroValue9
 t21:=Tryz.underlying21
 a21:=Tryz.isAgg21
 z21:=Tryz.sizeOf21
 v21:=Tryz.zeroValue21
 t31:=Tryz.underlying22
 a31:=Tryz.isAgg22
 z31:=Tryz.sizeOf22
 v31:=Tryz.zeroValue22
 t40:=Tryz.underlying255
 a40:=Tryz.isAgg255
 z40:=Tryz.sizeOf255
 v40:=Tryz.zeroValue255
 t46:=Tryz.underlying192
 a46:=Tryz.isAgg192
 z46:=Tryz.sizeOf192
 v46:=Tryz.zeroValue192
 t49:=Tryz.underlying282
 a49:=Tryz.isAgg282
 z49:=Tryz.sizeOf282
 v49:=Tryz.zeroValue282
 t51:=Tryz.underlying229
 a51:=Tryz.isAgg229
 z51:=Tryz.sizeOf229
 v51:=Tryz.zeroValue229
 t119:=Tryz.underlying253
 a119:=Tryz.isAgg253
 z119:=Tryz.sizeOf253
 t141:=Tryz.underlying273
 a141:=Tryz.isAgg273
 z141:=Tryz.sizeOf273
 v141:=Tryz.zeroValue273
 t152:=Tryz.underlying269
 a152:=Tryz.isAgg269
 z152:=Tryz.sizeOf269
 v152:=Tryz.zeroValue269
 t154:=Tryz.underlying271
 a154:=Tryz.isAgg271
 z154:=Tryz.sizeOf271
 v154:=Tryz.zeroValue271
 t193:=Tryz.underlying278
 a193:=Tryz.isAgg278
 z193:=Tryz.sizeOf278
 v193:=Tryz.zeroValue278
 t194:=Tryz.underlying279
 a194:=Tryz.isAgg279
 z194:=Tryz.sizeOf279
 v194:=Tryz.zeroValue279
 t196:=Tryz.underlying281
 a196:=Tryz.isAgg281
 z196:=Tryz.sizeOf281
 v196:=Tryz.zeroValue281
 t198:=Tryz.underlying284
 a198:=Tryz.isAgg284
 z198:=Tryz.sizeOf284
 v198:=Tryz.zeroValue284
 t201:=Tryz.underlying287
 a201:=Tryz.isAgg287
 z201:=Tryz.sizeOf287
 v201:=Tryz.zeroValue287
 t226:=Tryz.underlying290
 a226:=Tryz.isAgg290
 z226:=Tryz.sizeOf290
 v226:=Tryz.zeroValue290
 t227:=Tryz.underlying291
 a227:=Tryz.isAgg291
 z227:=Tryz.sizeOf291
 v227:=Tryz.zeroValue291
 g0:=by kernel_rfl
 g6:=by kernel_rfl
 i0:=by kernel_rfl
 i3:=by kernel_rfl
 i4:=by kernel_rfl
 i5:=by kernel_rfl
 i9:=by kernel_rfl
 i21:=by kernel_rfl
 i31:=by kernel_rfl
 i40:=by kernel_rfl
 i46:=by kernel_rfl
 i49:=by kernel_rfl
 i51:=by kernel_rfl
 i141:=by kernel_rfl
 i152:=by kernel_rfl
 i154:=by kernel_rfl
 i193:=by kernel_rfl
 i194:=by kernel_rfl
 i196:=by kernel_rfl
 i198:=by kernel_rfl
 i201:=by kernel_rfl
 i226:=by kernel_rfl
 i227:=by kernel_rfl
 m0:=by kernel_rfl
 m6:=by kernel_rfl }
open Go.RowKit Go.Lib in
theorem Tryz.strings_Fields_laid (s:ByteArray) (w:World) (hs:s.size < 4294967281) (XK:∀ (j:Nat) b,s.data.toList[j]?=some b->b.toNat < 128) (Cm:Lib.TabIs Tryz.prog w "strings.asciiSpace" .u8 Lib.asciiSpaceTab) :
  Calls Tryz.prog 223 #[.string s] w fun e w' =>
   e=.returned (.slice (some ⟨w.heap.size,0,none⟩) (Lib.fields s.data.toList).length (Lib.fields s.data.toList).length)/\w'=w.alloc (.cells ((Lib.fields s.data.toList).map fun l=>Value.string ⟨l.toArray⟩).toArray 9):=Any.strings_Fields_laid Tryz.SI s w hs XK Cm
def Tryz.Gi:Go.Shelf.Ren:=⟨fun | 20=>172 | n=>n,fun | 22=>60 | 3=>3 | 4=>4 | 0=>0 | n=>n,fun | n=>n⟩
theorem Tryz.FJ:Go.Proofs.Lays2.n20 Tryz.prog Tryz.Gi:={
 mixed:=by kernel_rfl
 f20:=dd Tryz.func172
 t0:=Tryz.underlying0
 a0:=Tryz.isAgg0
 z0:=Tryz.sizeOf0
 v0:=Tryz.zeroValue0
 t3:=Tryz.underlying3
 a3:=Tryz.isAgg3
 z3:=Tryz.sizeOf3
 v3:=Tryz.zeroValue3
 t4:=Tryz.underlying4
 a4:=Tryz.isAgg4
 z4:=Tryz.sizeOf4
 v4:=Tryz.zeroValue4
 t22:=Tryz.underlying60
 a22:=Tryz.isAgg60
 z22:=Tryz.sizeOf60
 v22:=Tryz.zeroValue60
 i3:=by kernel_rfl }
open Go.RowKit Go.Lib Go.Sort in
theorem Tryz.slices_Compact_int (blk off cap:Nat) (zs:List Int) (w:World) (hH:Holds (Value.int .i64) w blk off zs.toArray) (cX:zs.length<=9223372036854775807) (R8:zs.length<=cap) :
  Calls Tryz.prog 172 #[.slice (some ⟨blk,off,none⟩) zs.length cap] w fun e w'=>e=.returned (.slice (some ⟨blk,off,none⟩) (Lib.compact zs).length cap)/\∃ q,w'=putRow (Value.int .i64) (Sort.ahead w q) blk off (Lib.compact zs++List.replicate (zs.length - (Lib.compact zs).length) 0).toArray:=Any.slices_Compact_int Tryz.FJ blk off cap zs w hH cX R8
open Go.RowKit Go.Lib Go.Sort in
theorem Tryz.slices_Compact_int_empty (a:Option Addr) (cap:Nat) (w:World) :
  Calls Tryz.prog 172 #[.slice a 0 cap] w fun e w'=>e=.returned (.slice a 0 cap)/\w'=w:=Any.slices_Compact_int_empty Tryz.FJ a cap w
open Go.RowKit Go.Sort in
theorem Tryz.slices_Sort_int_none (p:Option Addr) (cap:Nat) (w:World) :
  Calls Tryz.prog 133 #[.slice p 0 cap] w fun e w'=>e=.returned (.tuple #[])/\w'=w:=Any.slices_Sort_int_none Tryz.KZ p cap w
end Go.Proofs
set_option maxHeartbeats 1000000
namespace Go.Xg
open Go.RowKit Go.Xw Go.Proofs Tryz
attribute [local irreducible] GW GL GO YG GC GA aW aZ
instance:EX prog 157 5:=EX.mk' (ai)
instance:DX prog 202:=DX.mk' (e:=204) (ai) (ai)
theorem Js (g:Value):GF prog 238 [.loc 0 0] [.box 204 [.loc 0 0,.v g]] (.tup []) [.box 204 [.loc 0 0,.v g]]:=by
 refine ah func238 ntmps238 ?_;exact iO
theorem uk (s:ae) (n:Nat) (a:Option Addr) (c:Nat) (rows:List (List GV)) (hn:rows.length=n) (hb:n+s.length<=140737488355328) :
  GC prog 195 [.loc 0 0,.v (sv s)] [.box 204 [.loc 0 0,.v (.slice a n c)],.vech 5 1 rows (.slice a n c)] (fun g aR=>(∃ x,g=.tup [.v (ii s.length),x])/\∃ a c,aR=[.box 204 [.loc 0 0,.v (.slice a (n+s.length) c)],.vech 5 1 (rows++cY s) (.slice a (n+s.length) c)]):=by
 subst hn;have h:=Js (.slice a rows.length c)
 cases s with
 | nil =>
  refine ah func195 ntmps195 ?_;refine V [0] h ?_;refine GL.Zv 1 rfl rfl rfl zf3 ?_;refine zaM ?_;refine Ba ?_;exact ⟨⟨_,rfl⟩,a,c,by simp [cY]⟩
 | cons x r =>
  generalize hs:x::r=s at *
  have cn:s.isEmpty=false:=by rw [<-hs];rfl
  clear hs;refine ah func195 ntmps195 ?_;refine V [0] h ?_;refine GL.Zw 1 rfl rfl rfl bc dh G ?_;intro a2 c2;refine zaM ?_;refine Ba ?_;exact ⟨⟨_,rfl⟩,a2,c2,rfl⟩
theorem Rv (str:ae) (a:Option Addr) (c:Nat) (h0:str≠[]) (hb:str.length<=140737488355328) :
  GF prog 196 [.loc 0 0] [.box 204 [.loc 0 0,.v (.slice a str.length c)],.vech 5 1 (cY str) (.slice a str.length c)] (.v (sv str)) [.box 204 [.loc 0 0,.v (.slice a str.length c)],.lost]:=by
 have hlen:(cY str).length=str.length:=by simp [cY]
 have hp:Nat.blt 0 str.length=true:=by simpa using List.length_pos_iff.2 h0
 have cn:str.isEmpty=false:=by cases str with | nil=>exact absurd rfl h0 | cons _ _=>rfl
 refine ah func196 ntmps196 ?_;refine aL (aE 0 10 (.a 10 (.q 11 .nil))) ?_;refine ao ?_;refine NB ?_;exact zcD
end Go.Xg
namespace Go.Xg
open Go.RowKit Go.Xw Go.Proofs Tryz
open GV (U)
open Go.Xp (bZ)
theorem om.rA {P:Program} {f:FuncId} {vs:List Value} {w:World} {R:Value->World->Prop} (h:Calls P f vs.toArray w fun e w'=>∃ v,e=.returned v/\R v w'):om P f vs w R:=h
theorem GW.builder {Q:dG} {fr:List GV} {r1 r2:Nat} {rest:Code} {t8 t56 t57 t5:Tmp} {T1 T2 T3 T4 T5:TypeId} {p1 p2 p3:String} {a1 a2 a3:Array Edge} (n:Nat)
  (h8:jG fr t8=true) (h56:jG fr t56=true) (cn:Nat.beq t8 t56=false) (abB:Nat.beq t5 t8=false) (hn:cK fr t5=.v (ii (n:Nat))) (hb:n<=281474976710656)
  (h:∀ a c,GW prog 0 rest Q (bp (bp (bp fr t8 (.loc 0 0)) t56 (.v (ii (n:Nat)))) t57 (.v (.tuple #[]))) [.box 204 [.loc 0 0,.v (.slice a 0 c)],.vech 5 1 [] (.slice a 0 c)]) :
  GW prog 0 (.seq (.region r1 [(⟨some t8,.alloc 204,T1,p1,a1,none⟩:Oper)].toArray false) (.seq (.region r2 [(⟨some t56,.move (.tmp t5),T2,p2,a2,none⟩:Oper),⟨some t57,.call ⟨.value (.func 194),[Operand.tmp t8,.tmp t56].toArray,#[T3,T4]⟩,T5,p3,a3,none⟩].toArray false) rest)) Q fr []:=fun B K β w l hm hI hF=>by
 have HF:t8≠t56:=by intro e;subst e;simp at cn
 have Up:t5≠t8:=by intro e;subst e;simp at abB
 have i8:=nC hF h8;have i56:=nC hF h56;refine W.seq (W.region (WL.alloc (t:=204) fun b w1 uC=>WL.nil ?_));refine W.seq (W.region (WL.v R.mv (WL.call (f:=194) (DZ:=[.pointer (some ⟨b,0,none⟩),.int .i64 n]) ?_ (R:=fun x w2=>x=.tuple #[]/\(Lib.BuilderAt 204 5 b b (.pointer (some ⟨b,0,none⟩)) [] w2/\Below b w1 w2)) ?_ fun x w2 hx=>WL.nil ?_)))
 ·have hF1:FR K (gk β 0 (.fix b)) (bp fr t8 (.loc 0 0)) (put l (some t8) (.pointer (some ⟨b,0,none⟩))) :=
   (hF.mono (cV.refl K) (jr (i:=0) (x:=.fix b) (by rw [hI.out 0 (aD _)];trivial))).fS t8 (.loc 0 0 b bG)
  have j56:jG (fS l t8 (.pointer (some ⟨b,0,none⟩))) t56=true:=nC hF1 (t:=t56) (by rw [KV];exact h56)
  have e5:nth (fS l t8 (.pointer (some ⟨b,0,none⟩))) t5=.int .i64 n:=by
   rw [ki Up];exact Rel.fF (by rw [<-hn];exact hF.nth t5)
  show [nth (fS (fS l t8 (.pointer (some ⟨b,0,none⟩))) t56 (nth (fS l t8 (.pointer (some ⟨b,0,none⟩))) t5)) t8,nth (fS (fS l t8 (.pointer (some ⟨b,0,none⟩))) t56 (nth (fS l t8 (.pointer (some ⟨b,0,none⟩))) t5)) t56]=_;rw [ki HF,td i8,td j56,e5]
 ·refine om.rA (Calls.mono (Tryz.Builder_Grow_fresh b b n w1 (aD _) uC.blk (by have:=uC.size;omega) hb) ?_);rintro e w' ⟨I,M⟩;exact ⟨_,I,rfl,M⟩
 ·obtain ⟨rfl,⟨_,v,ng,gq,xr⟩,Hu⟩:=hx;have gq:jg w2 b 5 1 v 0 []:=gq;obtain ⟨a,c,rfl⟩:=gq.shape;have wo:=uC.fresh;have ji:Ext iD w w2:=⟨Hu.os.trans uC.ext.os,Hu.tape.trans uC.ext.tape,Hu.output.trans uC.ext.output,jO uC.ext.size Hu.size,fun k hk hs=>(Hu.block k G).trans (uC.ext.block k hk hs)⟩;have rj:=hI.same ji
  have cZ:∀ i,β i=.no:=fun i=>hI.out i (aO _)
  have Xu:∀ o,K b o=none:=fun o=>by
   cases hk:K b o with
   | none=>rfl
   | some g=>have:=hI.fz.lt hk;omega
  have hw0:=hI.ext.size;have aco:=hI.tab.pow.lt;have oI:=hI.tab.spc.lt;have XX:dF β (gk β ([]:List Ob).length (.fix b)):=jr zgg
  have Xt:=rj.TP (x:=.fix b) (y:=.box 204 [.loc 0 0,.v (.slice a 0 c)]) (fun b' bA=>by
   cases bA
   exact ⟨fun i hi=>(by rw [cZ] at hi;cases hi),by omega,by omega,by omega⟩) (by
   refine ⟨b,[.pointer (some ⟨b,0,none⟩),.slice a 0 c],bG,ng,.cons (.loc 0 0 b bG) (.cons (.v _) .nil),Xu⟩) XX
  have Dj:jg w2 0 5 1 (.slice a 0 c) 0 []:=gq.base (aO _)
  have Ue:∀ g,(Value.slice a 0 c).ownBlock=some g->b < g:=fun g hg=>by
   have I:=(gq.lt hg).1
   have M:g≠b:=fun e=>xr (by rw [hg,e])
   omega
  have pj:gk β ([]:List Ob).length (.fix b) 1=.no:=by rw [b9 aP];exact cZ 1
  have Ck:dF (gk β ([]:List Ob).length (.fix b)) (gk (gk β ([]:List Ob).length (.fix b)) 1 (.gr (.slice a 0 c) 0)):=jr (by rw [pj];trivial)
  have hI4:=Xt.TP (x:=.gr (.slice a 0 c) 0) (y:=.vech 5 1 [] (.slice a 0 c)) (fun g hg=>by
   have:=Ue g hg;refine ⟨fun i hi=>?_,by omega,by omega,by omega⟩
   rcases nS hi with I | I
   ·cases I;omega
   ·rw [cZ] at I;cases I) (by
   refine ⟨[],bG,Dj,bm.nil,(fun r hr=>by cases hr),fun g hg o=>?_⟩
   cases hk:K g o with
   | none=>rfl
   | some y=>have:=hI.fz.lt hk;have:=Ue g hg;omega) Ck
  refine h a c B K _ w2 _ hm hI4 ?_;have hF2:=(hF.mono (cV.refl K) XX).mono (cV.refl K) Ck;refine ((hF2.fS t8 (.loc 0 0 b ?_)).fS t56 ?_).fS t57 (.v _)
  ·rw [b9 aP];exact bG
  ·have e5:nth (fS l t8 (.pointer (some ⟨b,0,none⟩))) t5=.int .i64 n:=by
    rw [ki Up];exact Rel.fF (by rw [<-hn];exact hF.nth t5)
   rw [show ev (put l (some t8) (.pointer (some ⟨b,0,none⟩))) (.tmp t5)=.int .i64 n from e5];exact .v _
attribute [local irreducible] GW GL GO YG GC GA aW aZ
theorem wa (a b:ae):cY (a++b)=cY a++cY b:=by simp [cY]
def oN (l:List ae):Nat:=(l.map List.length).sum
theorem FF:∀ (r:List ae) (x:ae),(bZ (x::r)).length=oN (x::r)+2 * r.length
 | [],x=>by simp [bZ,oN]
 | y::r,x=>by
  have:=FF r y;simp only [bZ,oN,aM,List.map_cons,sum_cons,List.flatMap_cons,length_cons] at this |-;omega
def gj (l:List ae):ae:=l.flatMap fun y=>44::32::y
theorem O3 (a b:List ae):gj (a++b)=gj a++gj b:=by unfold gj;rw [List.flatMap_append]
theorem VC (l:List ae) (k:Nat):(gj (l.take k)).length<=(gj l).length:=by
 have:gj l=gj (l.take k)++gj (l.drop k):=by rw [<-O3,List.take_append_drop]
 rw [this,aM];omega
theorem Xj (y:ae):gj [y]=[44,32]++y:=by simp [gj]
theorem St (x:ae) (r:List ae):bZ (x::r)=x++gj r:=rfl
theorem NV (l:List ae) (hb:(bZ l).length<=1099511627776) (hl:l.length<=1099511627776):GF prog 158 [strs l,.v (sv [44,32])] [] (.v (sv (bZ l))) []:=by
 match l,hb,hl with
 | [],hb,hl =>
  refine ah func158 ntmps158 ?_;exact al
 | [x],hb,hl =>
  have hr:([x].map fun s=>[GV.v (sv s)])[0]?=some [.v (sv x)]:=rfl
  have e:bZ [x]=x:=by simp [bZ]
  rw [e];refine ah func158 ntmps158 ?_;exact al
 | x::y::r,hb,hl =>
  have tW:((x::y::r).map fun s=>[GV.v (sv s)])[0]?=some [.v (sv x)]:=rfl;have hlen:=FF (y::r) x
  have BI:x.length<=1099511627776:=by simp only [bZ,aM] at hb;omega
  generalize hL:(x::y::r)=l at *
  have gM:2<=l.length:=by rw [<-hL];simp
  have eU:(l.map fun s=>[GV.v (sv s)]).length=l.length:=by simp
  have pj:Nat.blt 1 (l.map fun s=>[GV.v (sv s)]).length=true:=by rw [eU];simpa [Nat.blt] using gM
  have Fw:(((l.map fun s=>[GV.v (sv s)]).length:Int)==0)=false:=by rw [eU];simp only [beq_eq_false_iff_ne,ne_eq];omega
  have Dh:(((l.map fun s=>[GV.v (sv s)]).length:Int)==1)=false:=by rw [eU];simp only [beq_eq_false_iff_ne,ne_eq];omega
  have hq:decide ((9223372036854775807:Int) / (((l.map fun s=>[GV.v (sv s)]).length:Int) - 1)<=2)=false:=by
   rw [eU]
   have h3:(3:Int)<=9223372036854775807 / ((l.length:Int) - 1):=by
    rw [Int.le_ediv_iff_mul_le G];omega
   simp;omega
  refine ah func158 ntmps158 ?_;apply GL.q
  ·exact YG.mul (a:=2) (b:=((l.map fun s=>[GV.v (sv s)]).length:Int) - 1) rfl rfl G
  refine zaW ?_;refine GW.range (l.map fun s=>[GV.v (sv s)]).length (fun k fr Γ=>fr=[strs l,.v (sv [44,32]),U,U,U,.v (ii (0+2 * (((l.map fun s=>[GV.v (sv s)]).length:Int) - 1)+((oN (l.take k):Nat):Int))),U,U,U,U,U,U,U,U,U,U,U,U,U,U,U,U,U,U,U,U,U,U,U,U,U,U,U,U,U,U,U,U,U,strs l,.v (ii ((l.map fun s=>[GV.v (sv s)]).length:Int)),.v (ii (k:Nat)),U,U,U,U,U,U,U,U,U,U,U,U,U,U,U,U,U,U,U,U,U,U,U,U,U,U,U,U,U,U,U,U,U]/\Γ=[]) ?_ G ?_ ?_ ?_
  ·refine ⟨_,_,Wk.aC (cy:=[strs l,.v (sv [44,32]),U,U,U,.v (ii (0+2 * (((l.map fun s=>[GV.v (sv s)]).length:Int) - 1))),U,U,U,U,U,U,U,U,U,U,U,U,U,U,U,U,U,U,U,U,U,U,U,U,U,U,U,U,U,U,U,U,U,strs l,.v (ii ((l.map fun s=>[GV.v (sv s)]).length:Int)),.v (ii (0:Nat)),U,U,U,U,U,U,U,U,U,U,U,U,U,U,U,U,U,U,U,U,U,U,U,U,U,U,U,U,U,U,U,U,U]) ak,?_,rfl⟩;rw [List.take_zero,show ((oN []:Nat):Int)=0 from rfl,Int.add_zero]
  ·rintro k _ _ ⟨rfl,rfl⟩;exact dp
  ·rintro k _ _ aj ⟨rfl,rfl⟩;rw [eU] at aj
   have dA:l[k]?=some l[k]:=by simp [aj]
   have vt:(l.map fun s=>[GV.v (sv s)])[k]?=some [.v (sv l[k])]:=by rw [aS,dA];rfl
   have hs:oN (l.take (k+1))=oN (l.take k)+l[k].length:=by unfold oN;rw [bS,dA,kK,List.sum_append];simp only [Option.toList,List.map_cons,map_nil,sum_cons,List.sum_nil,Nat.add_zero]
   have hle:oN (l.take (k+1))<=oN l:=by
    have:oN l=oN (l.take (k+1))+oN (l.drop (k+1)):=by
     unfold oN;rw [<-List.sum_append,<-kK,List.take_append_drop]
    omega
   generalize l[k]=z at *;rw [show (0+2 * (((l.map fun s=>[GV.v (sv s)]).length:Int) - 1)+((oN (l.take (k+1)):Nat):Int))=0+2 * (((l.map fun s=>[GV.v (sv s)]).length:Int) - 1)+((oN (l.take k):Nat):Int)+(z.length:Int) by rw [hs];omega]
   have hov:decide (9223372036854775807 - (0+2 * (((l.map fun s=>[GV.v (sv s)]).length:Int) - 1)+((oN (l.take k):Nat):Int)) < (z.length:Int))=false:=by
    simp only [decide_eq_false_iff_not];omega
   refine D ?_;exact zcW
  ·rintro _ _ ⟨rfl,rfl⟩;rw [eU,bH]
   have hN:(0+2 * ((l.length:Int) - 1)+((oN l:Nat):Int))=(((bZ l).length:Nat):Int):=by
    have:(y::r).length+1=l.length:=by rw [<-hL];simp
    omega
   rw [hN];refine aY ?_
   refine GW.builder (bZ l).length rfl rfl rfl rfl rfl G fun a c=>?_
   refine D ?_;refine bP [0,1] (uk x 0 a c [] rfl G) ?_;rintro _ _ ⟨⟨u1,rfl⟩,a1,c1,rfl⟩;refine zax ?_
   have key:∀ k,(x++gj ((y::r).take k)).length<=1099511627776:=fun k=>by
    have I:=VC (y::r) k;rw [<-hL,St,aM] at hb;rw [aM];omega
   refine GW.range ((y::r).map fun s=>[GV.v (sv s)]).length (fun k fr Γ=>∃ acc a c,fr=[U,.v (sv [44,32]),U,U,U,U,U,U,.loc 0 0,U,U,U,U,U,U,U,U,U,U,U,U,U,U,U,U,U,U,U,U,U,U,U,U,U,U,U,U,U,U,U,U,U,U,U,U,U,U,U,U,U,U,U,U,U,U,U,U,U,U,U,U,U,U,strs (y::r),.v (ii (((y::r).map fun s=>[GV.v (sv s)]).length:Int)),.v (ii (k:Nat)),U,U,U,U,U,U,U,U,U]/\acc=x++gj ((y::r).take k)/\Γ=[.box 204 [.loc 0 0,.v (.slice a acc.length c)],.vech 5 1 (cY acc) (.slice a acc.length c)]) ?_ ?_ ?_ ?_ ?_
   ·rw [show 0+x.length=x.length from cL _];subst hL;exact ⟨_,_,Wk.aC ak,x,a1,c1,rfl,by simp [gj],rfl⟩
   ·have:((y::r).map fun s=>[GV.v (sv s)]).length+1=l.length:=by rw [<-hL];simp
    omega
   ·rintro k _ _ ⟨acc,a,c,rfl,_,rfl⟩;exact dp
   ·rintro k _ _ aj ⟨acc,a,c,rfl,mT,rfl⟩
    have aj:k < (y::r).length:=by simpa using aj
    have dA:(y::r)[k]?=some (y::r)[k]:=by simp [aj]
    have vt:((y::r).map fun s=>[GV.v (sv s)])[k]?=some [.v (sv (y::r)[k])]:=by rw [aS,dA];rfl
    have bR:x++gj ((y::r).take (k+1))=(acc++[44,32])++(y::r)[k]:=by
     rw [bS,dA,O3,<-de,<-mT,de]
     congr 1
     exact Xj _
    have wq:=key k;have rV:=key (k+1);rw [bR] at rV;rw [<-mT] at wq;simp only [aM,length_cons,length_nil] at rV;generalize (y::r)[k]=z at *
    have ZP:(cY acc).length=acc.length:=by simp [cY]
    refine D ?_;refine bP [0,1] (uk [44,32] acc.length a c (cY acc) ZP (by simp only [length_cons,length_nil];omega)) ?_;rintro _ _ ⟨⟨u1,rfl⟩,a2,c2,rfl⟩;refine cI ?_;rw [show cY acc++[[GV.v (.int .u8 ((44:UInt8).toNat:Int))],[GV.v (.int .u8 ((32:UInt8).toNat:Int))]]=cY (acc++[44,32]) by simp [cY],show acc.length+([44,32]:ae).length=(acc++[44,32]).length by simp];refine D ?_;refine bP [0,1] (uk z (acc++[44,32]).length a2 c2 (cY (acc++[44,32])) (by simp [cY]) (by simp only [aM,length_cons,length_nil];omega)) ?_;rintro _ _ ⟨⟨u2,rfl⟩,a3,c3,rfl⟩;refine cI ?_
    have ez:List.length (acc++[44,32])+List.length z=List.length ((acc++[44,32])++z):=by simp only [aM]
    rw [<-wa,ez];refine D ?_;exact ⟨rfl,rfl,_,_,Wk.aC ak,(acc++[44,32])++z,a3,c3,rfl,bR.symm,rfl⟩
   ·rintro _ _ ⟨acc,a,c,rfl,mT,rfl⟩
    have hj:bZ l=acc:=by
     rw [mT,<-hL,show ((y::r).map fun s=>[GV.v (sv s)]).length=(y::r).length by simp,bH];rfl
    rw [hj] at hb hlen |-
    have cn:acc≠[]:=by
     intro h0;rw [h0] at hlen;simp at hlen
    have abM:=Rv acc a c cn G;refine D ?_;refine V [0,1] abM ?_;exact al
open Go.Xp (Tok Nd T)
open Go.Sp (Src)
open Go.Im (qI sB tr kM dH iU w5)
mutual
def tT:T->GV
 | .mk n l=>.box [.v (ii n.kind),.v (ii n.at_),.v (ii n.n),.v (sv n.s),ints n.kids,.sl 1 (cw l)] 0
def cw:List T->List (List GV)
 | []=>[]
 | t::r=>[tT t]::cw r
end
abbrev uT (t:T):GV:=.box [.v (ii t.n.kind),.v (ii t.n.at_),.v (ii t.n.n),.v (sv t.n.s),ints t.n.kids,.sl 1 (cw t.kids)] 0
theorem aay (t:T):tT t=uT t:=by cases t;rw [tT];rfl
theorem mf (l:List T):cw l=l.map fun t=>[uT t]:=by
 induction l with
 | nil=>rfl
 | cons t l ih=>rw [cw,ih,aay];rfl
theorem rF (l:List T):(cw l).length=l.length:=by rw [mf];simp
theorem EO (l:List T) (t:T):cw (l++[t])=cw l++[[uT t]]:=by rw [mf,mf];simp
theorem sq {l:List T} {i:Nat} {t:T} (h:l[i]?=some t):(cw l)[i]?=some [uT t]:=by rw [mf,aS,h];rfl
def trG:Option (T × Nat)->GV
 | none=>.tup [U,U,.v (.bool false)]
 | some (t,e)=>.tup [uT t,.v (ii (e:Nat)),.v (.bool true)]
theorem TA (nodes:List Nd) (hl:nodes.length<=1099511627776) (hk:∀ n∈nodes,n.kids.length<=1099511627776):∀ (f a:Nat),nodes.length - a+1<=f->a<=1099511627776 ->
  GF prog 125 [.sl 5 (nodes.map ay),.v (ii (a:Nat))] [] (trG (qI nodes f a)) []:=by
 intro f
 induction f with
 | zero=>intro a h;omega
 | succ f ih =>
 intro a hf ha;rw [qI]
 cases hn:nodes[a]? with
 | none =>
  have ny:nodes.length<=a:=qo hn
  have hd:decide (((nodes.map ay).length:Int)<=(a:Int))=true:=by simpa using ny
  refine ah func125 ntmps125 ?_;exact zd6
 | some n =>
  have aj:=(bq hn).1
  have hd:decide (((nodes.map ay).length:Int)<=(a:Int))=false:=by simpa using aj
  have hr:(nodes.map ay)[a]?=some (ay n):=by rw [aS,hn];rfl
  have zS:=hk n (br hn);simp only;generalize hR:sB (qI nodes f) n.kids (a+1) []=R;refine ah func125 ntmps125 ?_;refine GW.wk (Wk.Ez (i:=0) (o:=5) 131 1 rfl rfl) ?_
  refine GW.range (n.kids.map fun i=>[GV.v (ii i)]).length (fun k fr Γ=>∃ next acc m rows,fr=[.sl 5 (nodes.map ay),.v (ii (a:Nat)),U,U,U,U,U,.loc 0 0,.v (ii (next:Nat)),U,U,U,U,U,U,U,U,U,U,U,U,U,U,U,U,U,U,U,U,U,ints n.kids,.v (ii ((n.kids.map fun i=>[GV.v (ii i)]).length:Int)),.v (ii (k:Nat)),U,U,U,U,U,U,U,U,U,U,U,U,U,U,U,U,U,U,U,U,U,U,U,U,U,U,U,U,U,U,U,U,U,U,U] /\
   Γ=[.box 170 [.v (ii n.kind),.v (ii n.at_),.v (ii n.n),.v (sv n.s),ints n.kids,.vec 1 m],.vec 131 1 0 rows]/\rows.length=m/\rows=cw acc/\m=k/\a+1<=next/\next<=nodes.length/\sB (qI nodes f) (n.kids.drop k) next acc=R) ?_ (by simpa using zS) ?_ ?_ ?_
  ·exact ⟨_,_,Wk.aC ak,a+1,[],0,[],rfl,rfl,rfl,rfl,rfl,aD _,aj,hR⟩
  ·rintro k _ _ ⟨next,acc,m,rows,rfl,rfl,_⟩;exact dp
  ·rintro k _ _ fB ⟨next,acc,m,rows,rfl,rfl,hm,bI,qA,KK,py,h⟩
   have fB:k < n.kids.length:=by simpa using fB
   have dA:n.kids[k]?=some n.kids[k]:=by simp [fB]
   have vt:(n.kids.map fun i=>[GV.v (ii i)])[k]?=some [.v (ii n.kids[k])]:=by rw [aS,dA];rfl
   rw [lT fB,sB] at h;generalize n.kids[k]=z at *
   by_cases hz:z=(next:Int)
   ·rw [ab hz] at h;subst hz
    have hz':((next:Int) != (next:Int))=false:=by simp
    have vr:=ih next G G
    cases hq:qI nodes f next with
    | none =>
     rw [hq] at h vr;subst h;refine D ?_;refine V [] vr ?_;exact zd6
    | some x =>
     obtain ⟨t,e⟩:=x;rw [hq] at h vr;simp only at h
     obtain ⟨s1,s2,_,_⟩:=Go.Im.CO f next t e hq
     refine D ?_;refine V [] vr ?_;refine zaX ?_;exact ⟨rfl,rfl,_,_,Wk.aC ak,e,acc++[t],_,_,rfl,rfl,by simp [hm],by rw [EO,bI],by omega,by omega,s2,h⟩
   ·rw [F hz] at h;subst h
    have hz':(z != (next:Int))=true:=by simpa using hz
    refine D ?_;exact zd6
  ·rintro _ _ ⟨next,acc,m,rows,rfl,rfl,hm,bI,qA,KK,py,h⟩;rw [show n.kids.drop (n.kids.map fun i=>[GV.v (ii i)]).length=[] by simp,sB] at h;subst h;simp only;subst bI;refine aY ?_;refine GW.wk (Wk.wK (i:=0) (o:=5) (j:=1) rfl rfl rfl rfl hm) ?_
   by_cases h0:n.at_ < 0
   ·rw [ab h0]
    have vl:decide ((0:Int)<=n.at_)=false:=by simpa using h0
    refine zd3 ?_;exact zd6
   ·rw [F h0]
    have vl:decide ((0:Int)<=n.at_)=true:=by simpa using h0
    refine zd3 ?_;refine LU ?_;exact zai
def B7 (nodes:List Nd):Option (List T × Nat)->GV
 | none=>.tup [U,.v (.bool false)]
 | some (l,e)=>.tup [.sl 1 (cw l),.v (.bool ((e:Int)==(nodes.length:Int)))]
theorem ve (p:Src) (hl:p.nodes.length<=1099511627776) (hk:∀ n∈p.nodes,n.kids.length<=1099511627776) (hf:p.fns.length<=1099511627776) :
  GF prog 66 [.agg (ar p)] [] (B7 p.nodes (kM p.nodes p.fns 0 [])) []:=by
 generalize hR:kM p.nodes p.fns 0 []=R;refine ah func66 ntmps66 ?_;refine GW.wk (Wk.w6 (t:=4) (a:=none) (c:=0) 131 1 rfl) ?_
 refine GW.range (p.fns.map au).length (fun k fr Γ=>∃ next acc m rows,fr=[U,.loc 0 0,U,U,.vec 1 m,.v (ii (next:Nat)),U,U,U,U,U,U,.sl 3 (p.fns.map au),.v (ii ((p.fns.map au).length:Int)),.v (ii (k:Nat)),U,U,U,U,U,U,U,U,U,U,U,U,U,U,U,U,U,U,U,U,U,U,U,U,U,U,U,U,U,U,U] /\
  Γ=[.box 33 (ar p),.vec 131 1 0 rows]/\rows.length=m/\rows=cw acc/\m=k/\next<=p.nodes.length/\kM p.nodes (p.fns.drop k) next acc=R) ?_ (by simpa using hf) ?_ ?_ ?_
 ·exact ⟨_,_,Wk.aC ak,0,[],0,[],rfl,rfl,rfl,rfl,rfl,aO _,hR⟩
 ·rintro k _ _ ⟨next,acc,m,rows,rfl,rfl,_⟩;exact dp
 ·rintro k _ _ fB ⟨next,acc,m,rows,rfl,rfl,hm,bI,qA,py,h⟩
  have fB:k < p.fns.length:=by simpa using fB
  have dA:p.fns[k]?=some p.fns[k]:=by simp [fB]
  have vt:(p.fns.map au)[k]?=some (au p.fns[k]):=by rw [aS,dA];rfl
  rw [lT fB,kM] at h;generalize p.fns[k]=fn at *
  have PA:=TA p.nodes hl hk (p.nodes.length+1) next G G
  unfold tr at h
  cases hq:qI p.nodes (p.nodes.length+1) next with
  | none =>
   rw [hq] at h PA;subst h;refine D ?_;refine V [] PA ?_;refine I8 ?_;exact zaV
  | some x =>
   obtain ⟨t,e⟩:=x;rw [hq] at h PA;simp only at h
   obtain ⟨s1,s2,_,_⟩:=Go.Im.CO _ next t e hq
   by_cases hb:fn.body=(next:Int)
   ·rw [ab hb] at h
    have bA:(fn.body != (next:Int))=false:=by simpa using hb
    refine D ?_;refine V [] PA ?_;refine zaX ?_;exact ⟨rfl,rfl,_,_,(Wk.cut (n:=2) (aO _) rfl).trans (Wk.aC ak),e,acc++[t],_,_,rfl,rfl,by simp [hm],by rw [EO,bI],by omega,s2,h⟩
   ·rw [F hb] at h;subst h
    have bA:(fn.body != (next:Int))=true:=by simpa using hb
    refine D ?_;refine V [] PA ?_;refine I8 ?_;exact zaV
 ·rintro _ _ ⟨next,acc,m,rows,rfl,rfl,hm,bI,qA,py,h⟩;rw [show p.fns.drop (p.fns.map au).length=[] by simp,kM] at h;subst h;subst bI;refine aY ?_;refine GW.wk (Wk.iy (t:=4) rfl rfl rfl hm) ?_
  have X5:p.nodes.length=(p.nodes.map ay).length:=by simp
  unfold B7;rw [X5];refine D ?_;refine aL (aE 0 8 .nil) ?_;refine ao ?_;exact q9
open Go.Sp
open Go.Xp (bD one levels ja eN fp ei dR)
structure PX where
 a:Value
 b:Value
 c:Value
 d:Value
 e:Value
abbrev cr (p:RS) (x:PX):Ob:=.box 188 [jV p.l,.v (ii p.i),.v (ii p.e),.v (ii p.code),.v (ii p.at_),.v x.a,.v x.b,.v x.c,.v x.d,.v x.e]
theorem tM (p:RS) (k:Nat) (x:PX) (hp:p.ok) (hk:k<=1):GF prog 207 [.loc 0 0,.v (ii (k:Nat))] [cr p x] (.agg (dP (Go.Im.tok p k))) [cr p x]:=by
 obtain ⟨lE,et⟩:=hp;unfold Go.Im.tok
 cases ht:p.l[p.i+k]? with
 | some t =>
  have hr:=me ht;have aj:p.i+k < p.l.length:=(bq ht).1
  have hd:decide (((p.l.map dP).length:Int)<=((p.i+k:Nat):Int))=false:=by simpa using by omega
  refine ah func207 ntmps207 ?_;refine aL (aE 0 12 .nil) ?_;refine bo ?_;refine aL (aE 0 12 (.a 12 .nil)) ?_;refine ao ?_;exact lO
 | none =>
  have aj:p.l.length<=p.i+k:=qo ht
  have hd:decide (((p.l.map dP).length:Int)<=((p.i+k:Nat):Int))=true:=by simpa using by omega
  refine ah func207 ntmps207 ?_;refine aL (aE 0 12 .nil) ?_;refine ao ?_;exact lO
theorem Hb (p:RS) (c a:Int) (x:PX):GF prog 245 [.loc 0 0,.v (ii c),.v (ii a)] [cr p x] (.tup []) [cr (p.fail c a) x]:=by
 unfold RS.fail
 by_cases h:p.code=0
 ·have h':(p.code==0)=true:=by simpa using h
  rw [ab h];refine ah func245 ntmps245 ?_;exact iO
 ·have h':(p.code==0)=false:=by simpa using h
  rw [F h];refine ah func245 ntmps245 ?_;exact iO
theorem Bc (p:RS) (x:PX) (hp:p.ok):GF prog 208 [.loc 0 0] [cr p x] (.tup []) [cr (Go.Im.lS p) x]:=by
 have ht:=tM p 0 x hp aP;unfold Go.Im.lS;generalize Go.Im.tok p 0=t at *;have hf:=Hb p 7 t.at_ x;refine ah func208 ntmps208 ?_;refine zd7 ?_;refine V [0] hf ?_;exact iO
theorem yj (p:RS) (d:Nat) (x:PX) (hp:p.ok):GF prog 247 [.loc 0 0,.v (ii (d:Nat))] [cr p x] (.v (.bool ((Go.Im.ct p d).code==0))) [cr (Go.Im.ct p d) x]:=by
 have ht:=tM p 0 x hp aP;unfold Go.Im.ct;generalize Go.Im.tok p 0=t at *
 by_cases h:d > 60
 ·have h':decide ((60:Int) < (d:Int))=true:=by simpa using by omega
  rw [ab h];have hf:=Hb p 9 t.at_ x;generalize p.fail 9 t.at_=q at *;refine ah func247 ntmps247 ?_;refine zd7 ?_;refine V [0] hf ?_;exact al
 ·have h':decide ((60:Int) < (d:Int))=false:=by simpa using by omega
  rw [F h];refine ah func247 ntmps247 ?_;exact al
theorem lI (p:RS) (k:Nat) (s:ae) (x:PX) (hp:p.ok) (hk:k<=1):GF prog 205 [.loc 0 0,.v (ii (k:Nat)),.v (sv s)] [cr p x] (.v (.bool (Go.Im.is p k s))) [cr p x]:=by
 have ht:=tM p k x hp hk;unfold Go.Im.is;generalize Go.Im.tok p k=t at *
 cases h:(t.kind==3) with
 | true =>
  rw [Bool.true_and];refine ah func205 ntmps205 ?_;refine zd7 ?_;exact al
 | false =>
  rw [Bool.false_and];refine ah func205 ntmps205 ?_;refine zd7 ?_;exact al
theorem sY (p:RS) (x:PX) (hp:p.ok):GF prog 206 [.loc 0 0] [cr p x] (.v (sv (Go.Im.tok p 0).s)) [cr (Go.Im.bF p) x]:=by
 have ht:=tM p 0 x hp aP;have hw:=Bc p x hp;have Pw:=hp.2;have Fy:=hp.1;unfold Go.Im.bF;generalize Go.Im.tok p 0=t at *;have hf:=Hb p 8 t.at_ x
 by_cases hc:p.code=0
 ·have eg:(p.code != 0)=false:=by simpa using hc
  rw [ab hc]
  by_cases M:t.kind=2
  ·have sF:(t.kind != 2)=false:=by simpa using M
   rw [ab M]
   by_cases hl:t.s.length > 12
   ·have kY:decide ((12:Int) < (t.s.length:Int))=true:=by simpa using by omega
    rw [ab hl];refine ah func206 ntmps206 ?_;refine zd7 ?_;refine V [0] hf ?_;exact al
   ·have kY:decide ((12:Int) < (t.s.length:Int))=false:=by simpa using by omega
    rw [F hl];refine ah func206 ntmps206 ?_;refine zd7 ?_;exact al
  ·have sF:(t.kind != 2)=true:=by simpa using M
   rw [F M];refine ah func206 ntmps206 ?_;refine zd7 ?_;refine V [0] hw ?_;exact al
 ·have eg:(p.code != 0)=true:=by simpa using hc
  rw [F hc];refine ah func206 ntmps206 ?_;refine zd7 ?_;exact al
theorem fO (p:RS) (s:ae) (x:PX) (hp:p.ok):GF prog 209 [.loc 0 0,.sl 1 [[.v (sv s)]]] [cr p x] (.tup []) [cr (Go.Im.want p s) x]:=by
 have hi:=lI p 0 s x hp aP;have hw:=Bc p x hp;have Pw:=hp.2;have Fy:=hp.1;unfold Go.Im.want;generalize Go.Im.lS p=q at *;have hr:([[GV.v (sv s)]]:List (List GV))[0]?=some [.v (sv s)]:=rfl;refine ah func209 ntmps209 ?_
 by_cases hc:p.code=0
 ·have eg:(p.code != 0)=false:=by simpa using hc
  rw [ab hc]
  cases h:Go.Im.is p 0 s with
  | true =>
   rw [h] at hi;rw [ab rfl];refine GW.range 1 (fun k fr Γ=>fr=[.loc 0 0,U,U,U,U,U,.sl 1 [[.v (sv s)]],.v (ii ((1:Nat):Int)),.v (ii (k:Nat)),U,U,U,U,U,U,U,U,U,U,U,U,U,U,U,U,U,U,U,U,U,U]/\((k=0/\Γ=[cr p x])\/(1<=k/\Γ=[cr p.next x]))) ?_ aP ?_ ?_ ?_
   ·exact ⟨_,_,Wk.aC ak,rfl,.inl ⟨rfl,rfl⟩⟩
   ·rintro k _ _ ⟨rfl,_⟩;exact dp
   ·rintro k _ _ hk ⟨rfl,⟨rfl,rfl⟩ | ⟨I,_⟩⟩
    ·refine zbX ?_;exact ⟨rfl,rfl,_,_,Wk.aC ak,rfl,.inr ⟨aD _,rfl⟩⟩
    ·omega
   ·rintro _ _ ⟨rfl,⟨I,_⟩ | ⟨_,rfl⟩⟩
    ·cases I
    ·exact od
  | false =>
   rw [h] at hi;rw [F aP];refine GW.range 1 (fun k fr Γ=>fr=[.loc 0 0,U,U,U,U,U,.sl 1 [[.v (sv s)]],.v (ii ((1:Nat):Int)),.v (ii (k:Nat)),U,U,U,U,U,U,U,U,U,U,U,U,U,U,U,U,U,U,U,U,U,U]/\k=0/\Γ=[cr p x]) ?_ aP ?_ ?_ ?_
   ·exact lj
   ·rintro k _ _ ⟨rfl,_⟩;exact dp
   ·rintro k _ _ hk ⟨rfl,rfl,rfl⟩;refine zbX ?_;refine V [0] hw ?_;exact iO
   ·rintro _ _ ⟨rfl,I,_⟩;cases I
 ·have eg:(p.code != 0)=true:=by simpa using hc
  rw [F hc];refine GW.range 1 (fun k fr Γ=>fr=[.loc 0 0,U,U,U,U,U,.sl 1 [[.v (sv s)]],.v (ii ((1:Nat):Int)),.v (ii (k:Nat)),U,U,U,U,U,U,U,U,U,U,U,U,U,U,U,U,U,U,U,U,U,U]/\k=0/\Γ=[cr p x]) ?_ aP ?_ ?_ ?_
  ·exact lj
  ·rintro k _ _ ⟨rfl,_⟩;exact dp
  ·rintro k _ _ hk ⟨rfl,rfl,rfl⟩;exact od
  ·rintro _ _ ⟨rfl,I,_⟩;cases I
mutual
def pT:T->GV
 | .mk n l=>.box [.v (ii n.kind),.v (ii n.at_),.v (ii n.n),.v (sv n.s),.v (.slice none 0 0),.sl 1 (ke l)] 0
def ke:List T->List (List GV)
 | []=>[]
 | t::r=>[pT t]::ke r
end
abbrev qT (t:T):GV:=.box [.v (ii t.n.kind),.v (ii t.n.at_),.v (ii t.n.n),.v (sv t.n.s),.v (.slice none 0 0),.sl 1 (ke t.kids)] 0
theorem aau (t:T):pT t=qT t:=by cases t;rw [pT];rfl
theorem gR (l:List T):ke l=l.map fun t=>[qT t]:=by
 induction l with
 | nil=>rfl
 | cons t l ih=>rw [ke,ih,aau];rfl
theorem mb (l:List T):(ke l).length=l.length:=by rw [gR];simp
theorem xN (l:List T) (t:T):ke (l++[t])=ke l++[[qT t]]:=by rw [gR,gR];simp
theorem Ao {l:List T} {i:Nat} {t:T} (h:l[i]?=some t):(ke l)[i]?=some [qT t]:=by rw [gR,aS,h];rfl
theorem Qj (k a:Int) (s:ae) (rows:List (List GV)):GF prog 246 [.v (ii k),.v (ii a),.v (sv s),.sl 1 rows] [] (.loc 0 0) [.box 170 [.v (ii k),.v (ii a),.v (ii 0),.v (sv s),.v (.slice none 0 0),.sl 1 rows]]:=by
 refine ah func246 ntmps246 ?_;refine GW.wk (Wk.cells 0 rfl (ds:=[.v (ii k),.v (ii a),.v (ii 0),.v (sv s),.v (.slice none 0 0),.sl 1 rows]) kp) ?_;exact zef
theorem fD (k a:Int) (s:ae) (l:List T) (rows:List (List GV)) (h:ke l=rows):GF prog 246 [.v (ii k),.v (ii a),.v (sv s),.sl 1 rows] [] (qT (one k a s l)) []:=by
 subst h;refine ah func246 ntmps246 ?_;refine GW.wk (Wk.cells 0 rfl (ds:=[.v (ii k),.v (ii a),.v (ii 0),.v (sv s),.v (.slice none 0 0),.sl 1 (ke l)]) kp) ?_;refine GW.wk (Wk.freeze (i:=0) rfl rfl rfl (aO _)) ?_;exact al
theorem vD:GF prog 199 [] [] (.sl 1 (levels.map fun l=>[strs l])) []:=by
 refine ah func199 ntmps199 ?_
 iterate 10 (refine cx ?_)
 exact ax
end Go.Xg
namespace Go.Xg
open Go.RowKit Go.Xw Go.Proofs Tryz
open GV (U)
open Go.Xp (Tok Nd T levels dk bZ aJ az)
open Go.Im (pY ub v8 nk dC gY vP lP iC si sj)
attribute [local irreducible] GW GL GO YG GC GA aW aZ
theorem decDigits_eq (n:Nat):Go.Lib.decDigits n=dk n:=by
 induction n using Nat.strongRecOn with
 | _ n ih =>
  unfold Go.Lib.decDigits dk;split
  ·rfl
  ·rw [ih (n / 10) G]
theorem VJ (n:Int):Go.Lib.itoa n=pY n:=by
 unfold Go.Lib.itoa pY;rw [decDigits_eq,decDigits_eq]
theorem NU (n:Int) (h0 : -9223372036854775808<=n) (I:n<=9223372036854775807):GF prog 157 [.v (ii n)] [] (.v (sv (pY n))) []:=by
 refine GF.YA (vs:=[ii n]) fun K β w ht hf=>?_
 obtain ⟨E,z,ng⟩:=va.all ht hf ht.pow (zs:=xP.map fun z=>Value.int .u64 z) aP (fun m o x hx=>by
  rw [aS] at hx;unfold zn;rw [F aP,ab rfl]
  cases hs:xP[o]? with
  | none=>rw [hs] at hx;cases hx
  | some y=>rw [hs] at hx;cases hx;rfl)
 have Cm:Go.Lib.TabIs prog w "internal/strconv.uint64pow10" .u64 Go.Lib.pow10Tab:=by
  unfold Go.Lib.TabIs World.var?;rw [show prog.globalNamed "internal/strconv.uint64pow10" = some 3 by kernel_rfl,show Go.Lib.pow10Tab=xP by decide];simp only [Option.bind_some,ng]
 refine om.rA (Calls.mono (strconv_Itoa n h0 I w Cm) ?_);rintro e w' ⟨M,k,os,h3⟩;refine ⟨_,M,by rw [VJ];rfl,?_⟩;subst h3;refine ⟨rfl,rfl,rfl,by simp [Go.Sort.grow,World.drewN],fun j hj _=>?_⟩;simp only [Go.Sort.grow,World.drewN];rw [Array.getElem?_append_left hj]
theorem SP (l:List ae) (s:ae) (hl:l.length<=1099511627776):GF prog 200 [strs l,.box [.v (sv s)] 0] [] (.v (.bool (l.contains s))) []:=by
 have h:=kh l s hl;generalize l.contains s=b at *;refine ah func200 ntmps200 ?_;exact zbb
def Eo (ls:List (List ae)) (s:ae):Int:=match ls.findIdx? (fun l=>l.contains s) with | some i=>(i:Int) | none => -1
theorem Jn (ls:List (List ae)) (s:ae) (hn:ls.length<=1099511627776) (hl:∀ l∈ls,l.length<=1099511627776) :
  GF prog 198 [.sl 1 (ls.map fun l=>[strs l]),.fn (.func 200) [] [.box [.v (sv s)] 0]] [] (.v (ii (Eo ls s))) []:=by
 have eU:(ls.map fun l=>[strs l]).length=ls.length:=by simp
 refine ah func198 ntmps198 ?_;refine GW.range (ls.map fun l=>[strs l]).length (fun k fr Γ=>fr=[.sl 1 (ls.map fun l=>[strs l]),.fn (.func 200) [] [.box [.v (sv s)] 0],U,U,U,U,U,.v (ii ((ls.map fun l=>[strs l]).length:Int)),.v (ii (k:Nat)),U,U,U,U,U,U,U,U,U,U]/\Γ=[]/\(ls.take k).all (fun l=>!(l.contains s))=true) ?_ G ?_ ?_ ?_
 ·exact lj
 ·exact jd
 ·rintro k _ _ aj ⟨rfl,rfl,ba⟩;rw [eU] at aj
  have dA:ls[k]?=some ls[k]:=by simp [aj]
  have hr:(ls.map fun l=>[strs l])[k]?=some [strs ls[k]]:=by rw [aS,dA];rfl
  have hc:=SP ls[k] s (hl _ (getElem_mem aj))
  have bR:(ls.take (k+1)).all (fun l=>!(l.contains s))=((ls.take k).all (fun l=>!(l.contains s))&&!(ls[k].contains s)):=by rw [bS,dA,List.all_append];simp
  have BA:ls[k].contains s=true->Eo ls s=(k:Int):=fun h0=>by
   have:ls.findIdx? (fun l=>l.contains s)=some k:=by
    rw [List.findIdx?_eq_some_iff_getElem];refine ⟨aj,h0,fun j hj=>?_⟩;rw [gU] at ba;have:=ba ls[j] zfX;exact zb8
   unfold Eo;rw [this]
  generalize ls[k]=l at *
  cases hb:l.contains s with
  | true =>
   rw [hb] at hc;rw [BA hb];refine D ?_;refine pM [] hc ?_;exact ax
  | false =>
   rw [hb] at hc bR;refine D ?_;refine pM [] hc ?_;exact zaT
 ·rintro _ _ ⟨rfl,rfl,ba⟩;rw [eU,bH] at ba
  have:ls.findIdx? (fun l=>l.contains s)=none:=by
   rw [List.findIdx?_eq_none_iff];intro x hx;rw [gU] at ba;simpa using ba x hx
  unfold Eo;rw [this];exact ax
theorem FK (s:ae):GF prog 162 [.v (sv s)] [] (.v (ii (ub s))) []:=by
 have I:=vD;have M:=Jn levels s aP aP;rw [show ub s=Eo levels s from rfl];generalize Eo levels s=z at *;generalize levels=ls at *;refine ah func162 ntmps162 ?_;refine GL.wk (Wk.freeze (i:=0) rfl rfl rfl (aD _)) ?_;refine GN (by simp only [pg,oH];rfl) ?_;refine V [] I ?_;refine V [] M ?_;exact al
open Go.Im (iU w5 dH)
theorem P7 (t:T) (z:Int):GF prog 163 [uT t,.v (ii z)] [] (.v (.bool (nk t z))) []:=by
 have h:=FK t.n.s;unfold nk
 cases hk:(t.n.kind==6) with
 | true =>
  generalize ub t.n.s=y at *;refine ah func163 ntmps163 ?_;exact zbb
 | false =>
  refine ah func163 ntmps163 ?_;exact al
theorem wU (t:T) (b:Bool) (x:ae) (hx:x.length<=1099511627776) (h:GF prog 114 [uT t] [] (.v (sv x)) []) :
  GF prog 161 [uT t,.v (.bool b)] [] (.v (sv (v8 b x))) []:=by
 unfold v8
 cases b with
 | true =>
  refine ah func161 ntmps161 ?_;exact zbb
 | false =>
  refine ah func161 ntmps161 ?_;exact zbb
theorem SR (ex:FuncId) [hf:aK prog ex] (tx:T->ae) (l:List T) (h:∀ t∈l,GF prog ex [uT t] [] (.v (sv (tx t))) []) (hj:(bZ (l.map tx)).length<=1099511627776) (hl:l.length<=1099511627776) :
  GF prog 160 [.sl 1 (cw l),.v (.func (.func ex) #[] #[])] [] (.v (sv (bZ (l.map tx)))) []:=by
 have rq:=rF l;have hJ:=NV (l.map tx) hj zfR;refine ah func160 ntmps160 ?_;refine GW.wk (Wk.w6 (t:=5) (a:=none) (c:=0) 9 1 rfl) ?_;refine GW.range (cw l).length (fun k fr Γ=>∃ m rows,fr=[.sl 1 (cw l),.v (.func (.func ex) #[] #[]),U,U,U,.vec 0 m,U,U,.sl 1 (cw l),.v (ii ((cw l).length:Int)),.v (ii (k:Nat)),U,U,U,U,U,U,U,U,U,U,U,U]/\Γ=[.vec 9 1 0 rows]/\rows.length=m/\rows=((l.take k).map tx).map (fun s=>[GV.v (sv s)])/\m=k) ?_ G ?_ ?_ ?_
 ·exact ⟨_,_,Wk.aC ak,0,[],rfl,rfl,rfl,rfl,rfl⟩
 ·rintro k _ _ ⟨m,rows,rfl,rfl,_⟩;exact dp
 ·rintro k _ _ aj ⟨m,rows,rfl,rfl,hm,bI,qA⟩;rw [rq] at aj
  have dA:l[k]?=some l[k]:=by simp [aj]
  have hr:=sq dA;have ht:=h l[k] (getElem_mem aj)
  have bR:((l.take (k+1)).map tx).map (fun s=>[GV.v (sv s)])=rows++[[.v (sv (tx l[k]))]]:=by rw [bS,dA,bI,kK,kK];rfl
  generalize l[k]=t at *;refine D ?_;refine jX [] ht ?_;refine D ?_;exact zdl
 ·rintro _ _ ⟨m,rows,rfl,rfl,hm,bI,qA⟩;rw [rq,bH] at bI;refine aY ?_;refine GW.wk (Wk.iy (t:=5) rfl rfl rfl hm) ?_;subst bI;refine D ?_;refine V [] hJ ?_;exact al
theorem ZZ {t:T} (h:dH t.n.kind t.kids.length=true) (hk:t.n.kind=3\/t.n.kind=5):∃ a,t.kids=[a]:=by
 have:t.kids.length=1:=by
  unfold dH at h
  exact ze3
 match hl:t.kids,this with
 | [a],_=>exact ⟨a,rfl⟩
theorem Z0 {t:T} (h:dH t.n.kind t.kids.length=true) (hk:t.n.kind=6):∃ a b,t.kids=[a,b]:=by
 have:t.kids.length=2:=by
  unfold dH at h;rw [hk] at h;simp at h;omega
 match hl:t.kids,this with
 | [a,b],_=>exact ⟨a,b,rfl⟩
theorem Wz:∀ (N:Nat) (t:T),aJ t<=N->iU t=true->si t->lP t<=1099511627776->GF prog 114 [uT t] [] (.v (sv (dC t))) []:=by
 intro N
 induction N with
 | zero=>intro t h;rw [Go.Xp.eB] at h;omega
 | succ N ih =>
 intro t hN hk hn hw;have hlen:=Go.Im.xY _ t (aD _) hn;rw [Go.Xp.eB] at hN;rw [Go.Im.Aa,aH,Go.Im.vB,gU] at hk;rw [Go.Im.tf] at hn
 have lg:∀ a∈t.kids,GF prog 114 [uT a] [] (.v (sv (dC a))) []/\(dC a).length<=1099511627776:=fun a ha=>by
  have I:=Go.Im.vT ha;rw [Go.Im.qK] at hw;have h3:=Go.Im.lq hn.2 ha
  have M:aJ a<=az t.kids:=by
   have:∀ (l:List T),a∈l->aJ a<=az l:=by
    intro l
    induction l with
    | nil=>intro h;cases h
    | cons b l ih2 =>
     intro h;rw [az]
     rcases dw h with rfl | h
     ·omega
     ·have:=ih2 h;omega
   exact this _ ha
  have h4:=Go.Im.xY _ a (aD _) h3;exact ⟨ih a G (hk.2 a ha) h3 G,by omega⟩
 rw [Go.Im.QS] at hlen |-;unfold vP at hlen |-;have px:=hk.1;have hkc:=@ZZ t px;have abu:=@Z0 t px;have XZ:=NU t.n.n hn.1.1 hn.1.2;have KJ:=FK t.n.s
 have fB:t.kids.length<=1099511627776:=by
  have:=Go.Im.SN t.kids;rw [Go.Im.qK] at hw;omega
 have Gr:=fun hj=>SR 114 dC t.kids (fun a ha=>(lg a ha).1) hj fB
 rw [<-Go.Im.ER] at Gr
 have lF:t.n.s.length<=1099511627776:=by rw [Go.Im.qK] at hw;omega
 have Um:(bZ (gY t.kids)).length<=1099511627776:=by
  have I:=Go.Im.Cw (gY t.kids)
  have M:((gY t.kids).map fun y=>y.length+2).sum<=iC t.kids:=by
   have:∀ (l:List T),sj l->((gY l).map fun y=>y.length+2).sum<=iC l:=by
    intro l
    induction l with
    | nil=>intro _;simp [gY]
    | cons a l ih2 =>
     intro h;rw [sj] at h;have I:=Go.Im.xY _ a (aD _) h.1;have M:=ih2 h.2;rw [gY,iC,List.map_cons,sum_cons];omega
   exact this _ hn.2
  rw [Go.Im.qK] at hw;omega
 have Gr:=Gr Um;clear Um;unfold uT;generalize gy:t.n.kind=kd at *
 by_cases I:kd=1
 ·subst I
  have di:((1:Int)==1)=true:=by decide
  rw [ab rfl];refine ah func114 ntmps114 ?_;refine V [] XZ ?_;exact al
 rw [F I] at hlen |-
 have g1:(kd==1)=false:=by simpa using I
 by_cases h3:kd=3
 ·subst h3
  have di:((3:Int)==1)=false:=by decide
  have qR:((3:Int)==3)=true:=by decide
  rw [ab rfl] at hlen |-;obtain ⟨a,ha⟩:=hkc (.inl rfl);rw [ha] at lg hlen |-;obtain ⟨c1,c2⟩:=lg a (List.mem_singleton.2 rfl)
  have hr:(cw [a])[0]?=some [uT a]:=by rw [mf];rfl
  simp only [gY,getD_cons_zero] at hlen |-;generalize cw [a]=rows at *;generalize dC a=x at *;refine ah func114 ntmps114 ?_;refine aL (aE 0 12 (.a 12 (aE 13 3 .nil))) ?_;refine ao ?_;refine aI [] c1 ?_;exact ax
 rw [F h3] at hlen |-
 have g3:(kd==3)=false:=by simpa using h3
 by_cases h4:kd=4
 ·subst h4
  have di:((4:Int)==1)=false:=by decide
  have qR:((4:Int)==3)=false:=by decide
  have f4:((4:Int)==4)=true:=by decide
  rw [ab rfl] at hlen |-;generalize cw t.kids=rows at *;generalize bZ (gY t.kids)=x at *;simp only [aM,length_cons,length_nil] at hlen;refine ah func114 ntmps114 ?_;refine aL (aE 0 10 (.a 10 (aE 11 3 .nil))) ?_;refine ao ?_;refine aI [] Gr ?_;exact ax
 rw [F h4] at hlen |-
 have g4:(kd==4)=false:=by simpa using h4
 by_cases h5:kd=5
 ·subst h5
  have di:((5:Int)==1)=false:=by decide
  have qR:((5:Int)==3)=false:=by decide
  have f4:((5:Int)==4)=false:=by decide
  have f5:((5:Int)==5)=true:=by decide
  rw [ab rfl] at hlen |-;obtain ⟨a,ha⟩:=hkc (.inr rfl);rw [ha] at lg hlen |-;obtain ⟨c1,c2⟩:=lg a (List.mem_singleton.2 rfl)
  have hr:(cw [a])[0]?=some [uT a]:=by rw [mf];rfl
  simp only [gY,getD_cons_zero] at hlen |-;have XL:=wU a (a.n.kind==6) (dC a) c2 c1;have ln:=Go.Im.AJ (a.n.kind==6) (dC a);generalize cw [a]=rows at *;generalize hxx:v8 (a.n.kind==6) (dC a)=x at *;refine ah func114 ntmps114 ?_;refine aL (aE 0 23 (.a 23 (.q 24 (.q 25 .nil)))) ?_;refine ao ?_;refine aI [] XL ?_;exact ax
 rw [F h5] at hlen |-
 have g5:(kd==5)=false:=by simpa using h5
 by_cases h6:kd=6
 ·subst h6
  have di:((6:Int)==1)=false:=by decide
  have qR:((6:Int)==3)=false:=by decide
  have f4:((6:Int)==4)=false:=by decide
  have f5:((6:Int)==5)=false:=by decide
  have f6:((6:Int)==6)=true:=by decide
  rw [ab rfl] at hlen |-;obtain ⟨a,b,ha⟩:=abu rfl;rw [ha] at lg hlen |-;obtain ⟨c1,c2⟩:=lg a (List.mem_cons_self);obtain ⟨d1,d2⟩:=lg b (cU _ List.mem_cons_self)
  have hr:(cw [a,b])[0]?=some [uT a]:=by rw [mf];rfl
  have jj:(cw [a,b])[1]?=some [uT b]:=by rw [mf];rfl
  simp only [gY,getD_cons_zero,getD_cons_succ] at hlen |-
  have acp : -1<=ub t.n.s/\ub t.n.s<=9:=by
   unfold ub
   cases hf:levels.findIdx? (fun l=>l.contains t.n.s) with
   | none=>simp
   | some i =>
    rw [List.findIdx?_eq_some_iff_getElem] at hf;have:=hf.1
    have h9:levels.length=9:=by decide
    exact zfx
  generalize ub t.n.s=lv at *;have fK:=P7 a lv;have gM:=P7 b (lv+1);have XL:=wU a (nk a lv) (dC a) c2 c1;have abg:=wU b (nk b (lv+1)) (dC b) d2 d1;generalize cw [a,b]=rows at *;generalize hxx:v8 (nk a lv) (dC a)=x at *;generalize hyy:v8 (nk b (lv+1)) (dC b)=y at *;simp only [aM,length_cons,length_nil] at hlen;refine ah func114 ntmps114 ?_;refine V [] KJ ?_;refine aL (aE 0 14 (aE 17 5 (aE 24 15 (.a 14 (.a 15 (.q 16 (.q 22 (.q 23 (.a 39 (.a 40 (.q 41 (.q 42 .nil)))))))))))) ?_;refine ao ?_;refine AD [] fK ?_;refine ao ?_;refine aI [] XL ?_;refine AD [] gM ?_;refine ao ?_;refine aI [] abg ?_;exact ax
 rw [F h6]
 have g6:(kd==6)=false:=by simpa using h6
 refine ah func114 ntmps114 ?_;exact al
end Go.Xg
set_option maxHeartbeats 2000000
namespace Go.Xg
open Go.RowKit Go.Xw Go.Proofs Tryz Go.Im
open GV (U)
open Go.Xp (Tok Nd T levels dk bZ aJ az)
attribute [local irreducible] GW GL GO YG GC GA aW aZ
abbrev j0 (f:FuncId):Value:=.func (.func f) #[] #[]
theorem Sm (l:List ae) (d:Nat) (hb:(gQ l d).length<=1099511627776) (hl:l.length<=1099511627776):GF prog 115 [strs l,.v (ii (d:Nat))] [] (.v (sv (gQ l d))) []:=by
 have eU:(l.map fun s=>[GV.v (sv s)]).length=l.length:=by simp
 have Bz:=vg l [123,32];unfold gQ at hb |-;rw [aM,Bz] at hb;refine ah func115 ntmps115 ?_;refine GW.range (l.map fun s=>[GV.v (sv s)]).length (fun k fr Γ=>fr=[strs l,U,U,U,U,.v (sv (um [123,32] (l.take k))),U,U,strs l,.v (ii ((l.map fun s=>[GV.v (sv s)]).length:Int)),.v (ii (k:Nat)),U,U,U,U,U,U,U,U,U,U]/\Γ=[]) ?_ G ?_ ?_ ?_
 ·exact jw
 ·rintro k _ _ ⟨rfl,rfl⟩;exact dp
 ·rintro k _ _ aj ⟨rfl,rfl⟩;rw [eU] at aj
  have dA:l[k]?=some l[k]:=by simp [aj]
  have vt:(l.map fun s=>[GV.v (sv s)])[k]?=some [.v (sv l[k])]:=by rw [aS,dA];rfl
  have I:=vg (l.take (k+1)) [123,32];have M:=QO l (k+1)
  have hz:l8 (l.take (k+1))=l8 (l.take k)+(l[k].length+1):=by rw [bS,dA,IX];simp [l8]
  have h3:=vg (l.take k) [123,32];rw [show l.take (k+1)=l.take k++[l[k]] by rw [bS,dA];rfl,Od] at |-;generalize l[k]=z at *;generalize um [123,32] (l.take k)=acc at *;simp only [length_cons,length_nil] at h3 hb
  have ach:acc.length+z.length+3<=1099511627777:=by omega
  refine D ?_;exact zcW
 ·rintro _ _ ⟨rfl,rfl⟩;rw [eU,bH];generalize um [123,32] l=acc at *;simp only [aM,length_cons,length_nil] at Bz hb;exact ax
theorem aag (ex bk:FuncId) [hf:aK prog ex] (tx:T->ae) (t a:T) (k:Nat) (hk:t.kids[k]?=some a) (h:GF prog ex [uT a] [] (.v (sv (tx a))) []) :
  GF prog 240 [.v (ii (k:Nat)),.box [.v (j0 ex),.v (j0 bk)] 0,.box [uT t] 0] [] (.v (sv (tx a))) []:=by
 have hr:=sq hk;generalize tx a=x at *;refine ah func240 ntmps240 ?_;refine aL (aE 0 9 (.a 9 (.q 10 .nil))) ?_;refine ao ?_;refine AD [] h ?_;exact zcD
structure Wr (ex bk:FuncId) (tx:T->ae) (inl:List ae->Nat->ae):Prop where
 expr:∀ a,iU a=true->si a->lP a<=1099511627776->GF prog ex [uT a] [] (.v (sv (tx a))) []
 block:∀ l (d:Nat),(inl l d).length<=1099511627776->l.length<=1099511627776->d<=1099511627776->GF prog bk [strs l,.v (ii (d:Nat))] [] (.v (sv (inl l d))) []
 mem:∀ l d s,s∈l->s.length<=(inl l d).length
theorem Bl (ex bk:FuncId) [he:aK prog ex] [hb:aK prog bk] (tx:T->ae) (inl:List ae->Nat->ae) (W:Wr ex bk tx inl) (t:T) (d:Nat) (hd:d+1<=1099511627776) (hl:t.kids.length<=1099511627776) (hlen:(oQ tx inl d t).length<=1099511627776)
  (h:∀ a∈t.kids,(lM tx inl (d+1) a).length<=1099511627776->GF prog 197 [.agg [.v (j0 ex),.v (j0 bk)],uT a,.v (ii ((d+1:Nat):Int))] [] (.v (sv (lM tx inl (d+1) a))) []) :
  GF prog 159 [.agg [.v (j0 ex),.v (j0 bk)],uT t,.v (ii (d:Nat))] [] (.v (sv (oQ tx inl d t))) []:=by
 have rq:=rF t.kids;rw [N7,LH] at hlen |-;have dY:=W.block (t.kids.map (lM tx inl (d+1))) d hlen zfR G
 have hk:∀ a∈t.kids,GF prog 197 [.agg [.v (j0 ex),.v (j0 bk)],uT a,.v (ii ((d+1:Nat):Int))] [] (.v (sv (lM tx inl (d+1) a))) []:=fun a ha =>
  h a ha (jO (W.mem _ d _ (oX.2 ⟨a,ha,rfl⟩)) hlen)
 generalize inl (t.kids.map (lM tx inl (d+1))) d=y at *;refine ah func159 ntmps159 ?_;refine GW.wk (Wk.w6 (t:=7) (a:=none) (c:=0) 9 1 rfl) ?_;refine GW.range (cw t.kids).length (fun k fr Γ=>∃ m rows,fr=[U,U,.v (ii (d:Nat)),.loc 0 0,U,U,U,.vec 1 m,U,U,U,U,U,.sl 1 (cw t.kids),.v (ii ((cw t.kids).length:Int)),.v (ii (k:Nat)),U,U,U,U,U,U,U,U,U,U,U,U,U,U,U,U,U]/\Γ=[.box 172 [.v (j0 ex),.v (j0 bk)],.vec 9 1 0 rows]/\rows.length=m/\rows=((t.kids.take k).map (lM tx inl (d+1))).map (fun s=>[GV.v (sv s)])/\m=k) ?_ G ?_ ?_ ?_
 ·exact ⟨_,_,Wk.aC ak,0,[],rfl,rfl,rfl,rfl,rfl⟩
 ·rintro k _ _ ⟨m,rows,rfl,rfl,_⟩;exact dp
 ·rintro k _ _ aj ⟨m,rows,rfl,rfl,hm,bI,qA⟩;rw [rq] at aj
  have dA:t.kids[k]?=some t.kids[k]:=by simp [aj]
  have hr:=sq dA;have ht:=hk t.kids[k] (getElem_mem aj)
  have bR:((t.kids.take (k+1)).map (lM tx inl (d+1))).map (fun s=>[GV.v (sv s)])=rows++[[.v (sv (lM tx inl (d+1) t.kids[k]))]]:=by rw [bS,dA,bI,kK,kK];rfl
  generalize t.kids[k]=kid at *;generalize lM tx inl (d+1) kid=z at *;refine D ?_;refine V [] ht ?_;exact zdl
 ·rintro _ _ ⟨m,rows,rfl,rfl,hm,bI,qA⟩;rw [rq,bH] at bI;refine aY ?_;refine GW.wk (Wk.iy (t:=7) rfl rfl rfl hm) ?_;subst bI;refine D ?_;refine jX [] dY ?_;exact ax
theorem Z1 {t:T} {n:Nat} (h:dH t.n.kind t.kids.length=true) (hk:(n=1/\(t.n.kind=13\/t.n.kind=7\/t.n.kind=11\/t.n.kind=12))\/(n=2/\(t.n.kind=8\/t.n.kind=10))):t.kids.length=n:=by
 unfold dH at h
 rcases hk with ⟨rfl,hk⟩ | ⟨rfl,hk⟩
 ·rcases hk with hk | hk | hk | hk <;> rw [hk] at h <;> simp at h <;> omega
 ·exact ze3
theorem Yu {t:T} (h:dH t.n.kind t.kids.length=true) (hk:t.n.kind=9):t.kids.length=2\/t.kids.length=3:=by
 unfold dH at h;rw [hk] at h;simp at h;omega
theorem JW (ex bk:FuncId) [he:aK prog ex] [hb:aK prog bk] (tx:T->ae) (inl:List ae->Nat->ae) (W:Wr ex bk tx inl):∀ (N:Nat) (t:T),aJ t<=N->iU t=true->si t->lP t<=1099511627776->∀ d,d+aJ t<=1099511627776->(lM tx inl d t).length<=1099511627776 ->
  GF prog 197 [.agg [.v (j0 ex),.v (j0 bk)],uT t,.v (ii (d:Nat))] [] (.v (sv (lM tx inl d t))) []:=by
 intro N
 induction N with
 | zero=>intro t h;rw [Go.Xp.eB] at h;omega
 | succ N ih =>
 intro t hN hk hn hw d hd hlen;have gq:=W.expr t hk hn hw;rw [Go.Xp.eB] at hN hd;rw [Go.Im.Aa,aH,Go.Im.vB,gU] at hk;rw [Go.Im.tf] at hn;have hwe:=Go.Im.qK t
 have MD:∀ (l:List T) (a:T),a∈l->aJ a<=az l:=by
  intro l
  induction l with
  | nil=>intro a h;cases h
  | cons b l ih2 =>
   intro a h;rw [az]
   rcases dw h with rfl | h
   ·omega
   ·have:=ih2 a h;omega
 have eW:=fun (k:Nat) (a:T) (nP:t.kids[k]?=some a)=>aag ex bk tx t a k nP (W.expr a (hk.2 a (br nP)) (Go.Im.lq hn.2 (br nP)) (by have:=Go.Im.vT (br nP);omega))
 have dY:∀ a∈t.kids,(oQ tx inl d a).length<=1099511627776->GF prog 159 [.agg [.v (j0 ex),.v (j0 bk)],uT a,.v (ii (d:Nat))] [] (.v (sv (oQ tx inl d a))) []:=fun a ha XW=>by
  have I:=MD _ a ha;have M:=Go.Im.vT ha;have h3:=hk.2 a ha;have h4:=Go.Im.lq hn.2 ha;rw [Go.Im.Aa,aH,Go.Im.vB,gU] at h3;rw [Go.Im.tf] at h4;have h5:=Go.Xp.eB a;have h6:=Go.Xp.bK a.kids;have h7:=Go.Im.qK a
  refine Bl ex bk tx inl W a d G G XW fun b fJ hlb=>?_
  have h8:=MD _ b fJ;have h9:=Go.Im.vT fJ;exact ih b G (h3.2 b fJ) (Go.Im.lq h4.2 fJ) G (d+1) G hlb
 rw [QL] at hlen |-;unfold zk at hlen |-;rw [J8] at hlen |-;have px:=@Z1 t;have abv:=@Yu t hk.1
 have px:=fun n=>@px n hk.1
 unfold uT at gq |-;unfold uT at eW;generalize gy:t.n.kind=kd at *
 by_cases fv:kd=13
 ·subst fv
  have f13:((13:Int)==13)=true:=by decide
  rw [ab rfl] at hlen |-;have fK:=px 1 (.inl ⟨rfl,.inl rfl⟩)
  obtain ⟨a,ha⟩:∃ a,t.kids=[a]:=by
   match hl:t.kids,fK with
   | [a],_=>exact ⟨a,rfl⟩
  have h0:=eW 0 a zgj;rw [ha] at hlen |-;rw [ha] at h0;simp only [List.map_cons,map_nil,getD_cons_zero,aM,length_cons,length_nil] at hlen |-;generalize tx a=x at *;generalize cw [a]=rows at *;refine c8 func197 ntmps197 ?_;refine zaa ?_;refine aL (aE 0 8 (.a 8 (aE 9 3 .nil))) ?_;refine ao ?_;refine pO [] h0 ?_;exact zcD
 rw [F fv] at hlen |-
 have g13:(kd==13)=false:=by simpa using fv
 by_cases h7:kd=7
 ·subst h7
  have f13:((7:Int)==13)=false:=by decide
  have f7:((7:Int)==7)=true:=by decide
  rw [ab rfl] at hlen |-;have fK:=px 1 (.inl ⟨rfl,.inr (.inl rfl)⟩)
  obtain ⟨a,ha⟩:∃ a,t.kids=[a]:=by
   match hl:t.kids,fK with
   | [a],_=>exact ⟨a,rfl⟩
  have h0:=eW 0 a zgj;rw [ha] at hlen |-;rw [ha] at h0;simp only [List.map_cons,map_nil,getD_cons_zero,aM,length_cons,length_nil] at hlen |-;generalize tx a=x at *;generalize cw [a]=rows at *;refine c8 func197 ntmps197 ?_;refine zaa ?_;refine aL (aE 0 7 (.a 7 (aE 8 3 .nil))) ?_;refine ao ?_;refine pO [] h0 ?_;exact zcD
 rw [F h7] at hlen |-
 have g7:(kd==7)=false:=by simpa using h7
 by_cases h8:kd=8
 ·subst h8
  have f13:((8:Int)==13)=false:=by decide
  have f7:((8:Int)==7)=false:=by decide
  have f8:((8:Int)==8)=true:=by decide
  rw [ab rfl] at hlen |-;have fK:=px 2 (.inr ⟨rfl,.inl rfl⟩)
  obtain ⟨a,b,ha⟩:∃ a b,t.kids=[a,b]:=by
   match hl:t.kids,fK with
   | [a,b],_=>exact ⟨a,b,rfl⟩
  have h0:=eW 0 a zgj;have I:=eW 1 b zgj;rw [ha] at hlen |-;rw [ha] at h0 I;simp only [List.map_cons,map_nil,getD_cons_zero,getD_cons_succ,aM,length_cons,length_nil] at hlen |-;generalize tx a=x at *;generalize tx b=y at *;generalize cw [a,b]=rows at *;refine c8 func197 ntmps197 ?_;refine zaa ?_;refine aL (aE 0 7 (.q 10 (.a 7 (.q 8 (.q 9 (.a 11 (aE 12 3 .nil))))))) ?_;refine ao ?_;refine pO [] h0 ?_;refine ao ?_;refine pO [] I ?_;exact zcD
 rw [F h8] at hlen |-
 have g8:(kd==8)=false:=by simpa using h8
 by_cases h9:kd=9
 ·subst h9
  have f13:((9:Int)==13)=false:=by decide
  have f7:((9:Int)==7)=false:=by decide
  have f8:((9:Int)==8)=false:=by decide
  have f9:((9:Int)==9)=true:=by decide
  rw [ab rfl] at hlen |-
  rcases abv rfl with fK | fK
  ·skip
   obtain ⟨a,b,ha⟩:∃ a b,t.kids=[a,b]:=by
    match hl:t.kids,fK with
    | [a,b],_=>exact ⟨a,b,rfl⟩
   have h0:=eW 0 a zgj
   have jj:(cw [a,b])[1]?=some [uT b]:=by rw [mf];rfl
   have HL:(cw [a,b]).length=2:=by rw [rF];rfl
   have xv:(((cw [a,b]).length:Int)==3)=false:=by rw [HL];decide
   rw [ha] at hlen |-;rw [ha] at h0;rw [F zfL] at hlen |-;exact zao
  ·skip
   obtain ⟨a,b,c,ha⟩:∃ a b c,t.kids=[a,b,c]:=by
    match hl:t.kids,fK with
    | [a,b,c],_=>exact ⟨a,b,c,rfl⟩
   have h0:=eW 0 a zgj
   have jj:(cw [a,b,c])[1]?=some [uT b]:=by rw [mf];rfl
   have eh:(cw [a,b,c])[2]?=some [uT c]:=by rw [mf];rfl
   have HL:(cw [a,b,c]).length=3:=by rw [rF];rfl
   have xv:(((cw [a,b,c]).length:Int)==3)=true:=by rw [HL];decide
   rw [ha] at hlen |-;rw [ha] at h0;rw [ab zfL] at hlen |-;simp only [List.map_cons,map_nil,getD_cons_zero,getD_cons_succ,aM,length_cons,length_nil] at hlen |-;have pj:=dY b (by rw [ha];simp) G;have fJ:=dY c (by rw [ha];simp) G;generalize tx a=x at *;generalize oQ tx inl d b=y at *;generalize oQ tx inl d c=z at *;clear dY eW ih;generalize cw [a,b,c]=rows at *;refine c8 func197 ntmps197 ?_;refine zaa ?_;refine aL (.q 0 (aE 4 8 (.a 1 (.q 2 (.q 3 (.a 12 (.q 13 (.q 14 .nil)))))))) ?_;refine ao ?_;refine pO [] h0 ?_;refine ao ?_;refine aI [] pj ?_;refine D ?_;refine aL (aE 0 9 (.a 9 (aE 10 3 .nil))) ?_;refine ao ?_;refine aI [] fJ ?_;exact ax
 rw [F h9] at hlen |-
 have g9:(kd==9)=false:=by simpa using h9
 by_cases nb:kd=10
 ·subst nb
  have f13:((10:Int)==13)=false:=by decide
  have f7:((10:Int)==7)=false:=by decide
  have f8:((10:Int)==8)=false:=by decide
  have f9:((10:Int)==9)=false:=by decide
  have f10:((10:Int)==10)=true:=by decide
  rw [ab rfl] at hlen |-;have fK:=px 2 (.inr ⟨rfl,.inr rfl⟩)
  ·skip
   obtain ⟨a,b,ha⟩:∃ a b,t.kids=[a,b]:=by
    match hl:t.kids,fK with
    | [a,b],_=>exact ⟨a,b,rfl⟩
   have h0:=eW 0 a zgj
   have jj:(cw [a,b])[1]?=some [uT b]:=by rw [mf];rfl
   have HL:(cw [a,b]).length=2:=by rw [rF];rfl
   have xv:(((cw [a,b]).length:Int)==3)=false:=by rw [HL];decide
   rw [ha] at hlen |-;rw [ha] at h0;exact zao
 rw [F nb] at hlen |-
 have g10:(kd==10)=false:=by simpa using nb
 by_cases qx:kd=11
 ·subst qx
  have f13:((11:Int)==13)=false:=by decide
  have f7:((11:Int)==7)=false:=by decide
  have f8:((11:Int)==8)=false:=by decide
  have f9:((11:Int)==9)=false:=by decide
  have f10:((11:Int)==10)=false:=by decide
  have f11:((11:Int)==11)=true:=by decide
  rw [ab rfl] at hlen |-;have fK:=px 1 (.inl ⟨rfl,.inr (.inr (.inl rfl))⟩)
  obtain ⟨a,ha⟩:∃ a,t.kids=[a]:=by
   match hl:t.kids,fK with
   | [a],_=>exact ⟨a,rfl⟩
  exact zaI
 rw [F qx] at hlen |-
 have g11:(kd==11)=false:=by simpa using qx
 by_cases qe:kd=12
 ·subst qe
  have f13:((12:Int)==13)=false:=by decide
  have f7:((12:Int)==7)=false:=by decide
  have f8:((12:Int)==8)=false:=by decide
  have f9:((12:Int)==9)=false:=by decide
  have f10:((12:Int)==10)=false:=by decide
  have f11:((12:Int)==11)=false:=by decide
  have f12:((12:Int)==12)=true:=by decide
  rw [ab rfl] at hlen |-;have fK:=px 1 (.inl ⟨rfl,.inr (.inr (.inr rfl))⟩)
  obtain ⟨a,ha⟩:∃ a,t.kids=[a]:=by
   match hl:t.kids,fK with
   | [a],_=>exact ⟨a,rfl⟩
  exact zaI
 rw [F qe] at hlen |-
 have g12:(kd==12)=false:=by simpa using qe
 clear dY eW ih;generalize tx t=x at *;refine c8 func197 ntmps197 ?_;refine zaa ?_;refine jX [] gq ?_;exact ax
open Go.Xp (Ar)
open Go.Sp (Src)
theorem SH (ex bk:FuncId) [he:aK prog ex] [hb:aK prog bk] (tx:T->ae) (inl:List ae->Nat->ae) (W:Wr ex bk tx inl) (p:Src) (trees:List T) (hlen:(oK tx inl p trees).length<=1099511627776) (hft:p.fns.length=trees.length)
  (hg:p.globals.length<=1099511627776) (ha:p.arrays.length<=1099511627776) (hf:p.fns.length<=1099511627776) (kX:∀ a∈p.arrays,-9223372036854775808<=a.size/\a.size<=9223372036854775807) (FA:∀ f∈p.fns,f.params.length<=1099511627776)
  (ht:∀ t∈trees,iU t=true/\si t/\lP t<=1099511627776/\aJ t+1<=1099511627776) :
  GF prog 113 [.agg (ar p),.sl 1 (cw trees),.v (j0 ex),.v (j0 bk)] [] (.v (sv (oK tx inl p trees))) []:=by
 have hmg:(p.globals.map fun s=>[GV.v (sv s)]).length=p.globals.length:=by simp
 have mr:(p.arrays.map aB).length=p.arrays.length:=by simp
 have hmf:(p.fns.map au).length=p.fns.length:=by simp
 have l2:=D5 (di tx inl) (p.fns.zip trees) (dU a1 (dU g1 [] p.globals) p.arrays);have l1:=D5 a1 p.arrays (dU g1 [] p.globals);unfold oK at hlen |-;refine ah func113 ntmps113 ?_;refine GW.wk (Wk.w6 (t:=9) (a:=none) (c:=0) 5 1 rfl) ?_;refine GW.range (p.globals.map fun s=>[GV.v (sv s)]).length (fun k fr Γ=>∃ acc m rows,fr=[U,.sl 1 (cw trees),.v (j0 ex),.v (j0 bk),.loc 0 0,U,U,U,U,.vec 1 m,U,U,U,U,U,U,U,U,strs p.globals,.v (ii ((p.globals.map fun s=>[GV.v (sv s)]).length:Int)),.v (ii (k:Nat)),U,U,U,U,U,U,U,U,U,U,U,U,U,U,U,U,U,U,U,U,U,U,U,U,U,U,U,U,U,U,U,U,U,U,U,U,U,U,U,U,U,U,U,U,U,U,U,U,U,U,U,U,U,U,U,U,U,U,U,U,U]/\Γ=[.box 33 (ar p),.vec 5 1 0 rows]/\rows.length=m/\rows=cY acc/\acc=dU g1 [] (p.globals.take k)) ?_ G ?_ ?_ ?_
 ·exact ⟨_,_,Wk.aC ak,[],0,[],rfl,rfl,rfl,rfl,rfl⟩
 ·rintro k _ _ ⟨acc,m,rows,rfl,rfl,_⟩;exact dp
 ·rintro k _ _ aj ⟨acc,m,rows,rfl,rfl,hm,bI,mT⟩;rw [hmg] at aj
  have dA:p.globals[k]?=some p.globals[k]:=by simp [aj]
  have vt:(p.globals.map fun s=>[GV.v (sv s)])[k]?=some [.v (sv p.globals[k])]:=by rw [aS,dA];rfl
  have bR:dU g1 [] (p.globals.take (k+1))=acc++g1 p.globals[k]:=by rw [bS,dA,mT];exact zu g1 _ _ _
  have hle:=zw g1 p.globals (k+1) [];rw [bR,aM] at hle
  have hmr:rows.length=acc.length:=by rw [bI];simp [cY]
  generalize p.globals[k]=z at *
  have hz:(g1 z).length=z.length+6:=by unfold g1;simp
  refine D ?_;refine GL.DY (str:=g1 z) rfl rfl rfl bc rfl G ?_;refine zaM ?_;exact ⟨rfl,rfl,_,_,Wk.aC ak,acc++g1 z,_,_,rfl,rfl,by rw [aM,hm];simp [cY],by rw [bI];exact (wa acc (g1 z)).symm,bR.symm⟩
 ·rintro _ _ ⟨acc,m,rows,rfl,rfl,hm,bI,mT⟩;rw [hmg,bH] at mT;rw [<-mT] at hlen l1 l2 |-;refine aY ?_;refine D ?_;refine GW.range (p.arrays.map aB).length (fun k fr Γ=>∃ sP m rows,fr=[U,.sl 1 (cw trees),.v (j0 ex),.v (j0 bk),.loc 0 0,U,U,U,U,.vec 1 m,U,U,U,U,U,U,U,U,U,U,U,U,U,U,U,U,U,U,U,U,U,.sl 2 (p.arrays.map aB),.v (ii ((p.arrays.map aB).length:Int)),.v (ii (k:Nat)),U,U,U,U,U,U,U,U,U,U,U,U,U,U,U,U,U,U,U,U,U,U,U,U,U,U,U,U,U,U,U,U,U,U,U,U,U,U,U,U,U,U,U,U,U,U,U,U]/\Γ=[.box 33 (ar p),.vec 5 1 0 rows]/\rows.length=m/\rows=cY sP/\sP=dU a1 acc (p.arrays.take k)) ?_ G ?_ ?_ ?_
  ·exact ⟨_,_,Wk.aC ak,acc,m,rows,rfl,rfl,hm,bI,rfl⟩
  ·rintro k _ _ ⟨sP,m,rows,rfl,rfl,_⟩;exact dp
  ·clear hm bI;rintro k _ _ aj ⟨sP,m,rows,rfl,rfl,hm,bI,Gn⟩;rw [mr] at aj
   have dA:p.arrays[k]?=some p.arrays[k]:=by simp [aj]
   have vt:(p.arrays.map aB)[k]?=some (aB p.arrays[k]):=by rw [aS,dA];rfl
   have bR:dU a1 acc (p.arrays.take (k+1))=sP++a1 p.arrays[k]:=by rw [bS,dA,Gn];exact zu a1 _ _ _
   have hle:=zw a1 p.arrays (k+1) acc;rw [bR,aM] at hle
   have hmr:rows.length=sP.length:=by rw [bI];simp [cY]
   have zW:=kX p.arrays[k] (getElem_mem aj);generalize p.arrays[k]=z at *;have hit:=NU z.size zW.1 zW.2;have sG:=z8 zW
   have hz:(a1 z).length=z.name.length+(pY z.size).length+8:=by unfold a1;simp;omega
   unfold aB at vt;refine D ?_;refine aL (aE 0 7 (.a 7 (.q 8 (.q 9 (.a 10 (.q 11 .nil)))))) ?_;refine ao ?_;refine aI [] hit ?_;refine OA rfl rfl (GL.DY (str:=a1 z) rfl rfl rfl bc rfl G (GL.nil (aY (fM.mk zfK ?_))))
   refine Q3 ?_;refine bo ?_;exact ⟨rfl,rfl,_,_,(Wk.cut (n:=2) (aO _) rfl).trans (Wk.aC ak),sP++a1 z,_,_,rfl,rfl,by rw [aM,hm];simp [cY],by rw [bI];exact (wa sP (a1 z)).symm,bR.symm⟩
  ·clear hm bI;rintro _ _ ⟨sP,m,rows,rfl,rfl,hm,bI,Gn⟩;rw [mr,bH] at Gn;rw [<-Gn] at hlen l2 |-
   have uq:∀ (k:Nat) (f:Go.Sp.Fn),p.fns[k]?=some f->f.params.length<=1099511627776:=fun k f h=>FA f (br h)
   refine aY ?_;refine D ?_;refine GW.range (p.fns.map au).length (fun k fr Γ=>∃ wQ m rows,fr=[U,.sl 1 (cw trees),U,U,U,U,U,U,U,.vec 1 m,U,U,U,U,.loc 2 0,U,U,U,U,U,U,U,U,U,U,U,U,U,U,U,U,U,U,U,U,U,U,U,U,U,U,U,U,U,U,U,U,U,U,U,U,U,U,.sl 3 (p.fns.map au),.v (ii ((p.fns.map au).length:Int)),.v (ii (k:Nat)),U,U,U,U,U,U,U,U,U,U,U,U,U,U,U,U,U,U,U,U,U,U,U,U,U,U]/\Γ=[.box 33 (ar p),.vec 5 1 0 rows,.box 172 [.v (j0 ex),.v (j0 bk)]]/\rows.length=m/\rows=cY wQ/\wQ=dU (di tx inl) sP ((p.fns.zip trees).take k)) ?_ G ?_ ?_ ?_
   ·exact ⟨_,_,Wk.aC ak,sP,m,rows,rfl,rfl,hm,bI,rfl⟩
   ·rintro k _ _ ⟨wQ,m,rows,rfl,rfl,_⟩;exact dp
   ·clear hm bI;rintro k _ _ aj ⟨wQ,m,rows,rfl,rfl,hm,bI,Gp⟩;rw [hmf] at aj
    have oI:k < trees.length:=by omega
    have dA:p.fns[k]?=some p.fns[k]:=by simp [aj]
    have zc:trees[k]?=some trees[k]:=by simp [oI]
    have vt:(p.fns.map au)[k]?=some (au p.fns[k]):=by rw [aS,dA];rfl
    have ack:=sq zc
    have hkz:(p.fns.zip trees)[k]?=some (p.fns[k],trees[k]):=by rw [List.getElem?_zip_eq_some];exact ⟨dA,zc⟩
    have bR:dU (di tx inl) sP ((p.fns.zip trees).take (k+1))=wQ++di tx inl (p.fns[k],trees[k]):=by rw [bS,hkz,Gp];exact zu (di tx inl) _ _ _
    have hle:=zw (di tx inl) (p.fns.zip trees) (k+1) sP;rw [bR,aM] at hle
    have hmr:rows.length=wQ.length:=by rw [bI];simp [cY]
    obtain ⟨q1,q2,q3,q4⟩:=ht trees[k] (getElem_mem oI);have hpk:=uq k _ dA;generalize p.fns[k]=f at *;generalize trees[k]=t at *
    have hz:(di tx inl (f,t)).length=f.name.length+(bZ f.params).length+(oQ tx inl 0 t).length+9:=by unfold di;simp;omega
    have hJ:=NV f.params G hpk
    have MD:∀ (l:List T) (a:T),a∈l->aJ a<=az l:=by
     intro l
     induction l with
     | nil=>intro a h;cases h
     | cons b l ih2 =>
      intro a h;rw [az]
      rcases dw h with rfl | h
      ·omega
      ·have:=ih2 a h;omega
    have hB:=Bl ex bk tx inl W t 0 G (by have:=Go.Xp.bK t.kids;have:=Go.Xp.eB t;omega) G fun a Fs XW=>by
     have I:=MD _ a Fs;have M:=Go.Xp.eB t;have h3:=vT Fs;have h4:=qK t;rw [Aa,aH,vB,gU] at q1;rw [tf] at q2;exact JW ex bk tx inl W _ a (aD _) (q1.2 a Fs) (lq q2.2 Fs) G (0+1) G XW
    unfold au at vt;refine D ?_;refine aL (aE 0 7 (aE 10 5 (.a 7 (.q 8 (.q 9 (.a 15 (.q 16 (.q 17 (.a 18 (.q 19 .nil)))))))))) ?_;refine ao ?_;refine aI [] hJ ?_;refine aI [] hB ?_;refine OA rfl rfl (GL.DY (str:=di tx inl (f,t)) rfl rfl rfl bc rfl G (GL.nil (aY (fM.mk zfK ?_))))
    refine Q3 ?_;refine bo ?_;exact ⟨rfl,rfl,_,_,(Wk.cut (n:=3) (aO _) rfl).trans (Wk.aC ak),wQ++di tx inl (f,t),_,_,rfl,rfl,by rw [aM,hm];simp [cY],by rw [bI];exact (wa wQ _).symm,bR.symm⟩
   ·clear hm bI;rintro _ _ ⟨wQ,m,rows,rfl,rfl,hm,bI,Gp⟩;rw [hmf,show (p.fns.zip trees).take p.fns.length=p.fns.zip trees from jN zgb] at Gp;rw [<-Gp] at hlen |-;refine aY ?_;refine GW.wk (Wk.iy (t:=9) rfl rfl rfl hm) ?_
    have aca:rows=wQ.map fun c=>[.v (.int .u8 (c.toNat:Int))]:=bI
    exact ax
end Go.Xg
namespace Go.Xg
open Go.RowKit Go.Xw Go.Proofs Tryz
open GV (U)
open Go.Im (gx tQ tR vi nN pd)
attribute [local irreducible] GW GL GO YG GC GA aW aZ
theorem JZ (a b:List ae) (ha:a.length<=1099511627776) (hb:b.length<=1099511627776):GF prog 118 [strs a,strs b] [] (.v (.bool (gx (fun x y=>x==y) a b))) []:=by
 have mr:(a.map fun s=>[GV.v (sv s)]).length=a.length:=by simp
 have rX:(b.map fun s=>[GV.v (sv s)]).length=b.length:=by simp
 by_cases hl:a.length=b.length
 ·have hd:(((a.map fun s=>[GV.v (sv s)]).length:Int) != ((b.map fun s=>[GV.v (sv s)]).length:Int))=false:=by rw [mr,rX,hl];simp
  refine ah func118 ntmps118 ?_;refine GW.range (a.map fun s=>[GV.v (sv s)]).length (fun k fr Γ=>fr=[strs a,strs b,U,U,U,U,U,U,U,U,U,U,.v (ii ((a.map fun s=>[GV.v (sv s)]).length:Int)),.v (ii (k:Nat)),U,U,U,U,U,U,U,U,U,U,U,U]/\Γ=[]/\vi (fun x y=>x==y) a b k) ?_ G ?_ ?_ ?_
  ·exact zbm
  ·exact jd
  ·rintro k _ _ aj ⟨rfl,rfl,my⟩;rw [mr] at aj
   have nP:a[k]?=some a[k]:=by simp [aj]
   have rW:k < b.length:=by omega
   have po:b[k]?=some b[k]:=by simp [rW]
   have xu:(a.map fun s=>[GV.v (sv s)])[k]?=some [GV.v (sv a[k])]:=by rw [aS,nP];rfl
   have HK:(b.map fun s=>[GV.v (sv s)])[k]?=some [GV.v (sv b[k])]:=by rw [aS,po];rfl
   generalize a[k]=x at *;generalize b[k]=y at *
   cases lG:(x==y) with
   | true =>
    have hn:(x != y)=false:=by simp only [bne,lG];rfl
    have b8:(!(x==y))=false:=by rw [lG];rfl
    refine zbS ?_;exact zcE
   | false =>
    have hn:(x != y)=true:=by simp only [bne,lG];rfl
    have b8:(!(x==y))=true:=by rw [lG];rfl
    exact zfo
  ·rintro _ _ ⟨rfl,rfl,my⟩;exact zcr
 ·have hd:(((a.map fun s=>[GV.v (sv s)]).length:Int) != ((b.map fun s=>[GV.v (sv s)]).length:Int))=true:=by rw [mr,rX];simpa using by omega
  rw [tQ hl];refine ah func118 ntmps118 ?_;exact al
theorem U8 (a b:List Int) (ha:a.length<=1099511627776) (hb:b.length<=1099511627776):GF prog 169 [ints a,ints b] [] (.v (.bool (gx (fun x y=>x==y) a b))) []:=by
 have mr:(a.map fun s=>[GV.v (ii s)]).length=a.length:=by simp
 have rX:(b.map fun s=>[GV.v (ii s)]).length=b.length:=by simp
 by_cases hl:a.length=b.length
 ·have hd:(((a.map fun s=>[GV.v (ii s)]).length:Int) != ((b.map fun s=>[GV.v (ii s)]).length:Int))=false:=by rw [mr,rX,hl];simp
  refine ah func169 ntmps169 ?_;refine GW.range (a.map fun s=>[GV.v (ii s)]).length (fun k fr Γ=>fr=[ints a,ints b,U,U,U,U,U,U,U,U,U,U,.v (ii ((a.map fun s=>[GV.v (ii s)]).length:Int)),.v (ii (k:Nat)),U,U,U,U,U,U,U,U,U,U,U,U]/\Γ=[]/\vi (fun x y=>x==y) a b k) ?_ G ?_ ?_ ?_
  ·exact zbm
  ·exact jd
  ·rintro k _ _ aj ⟨rfl,rfl,my⟩;rw [mr] at aj
   have nP:a[k]?=some a[k]:=by simp [aj]
   have rW:k < b.length:=by omega
   have po:b[k]?=some b[k]:=by simp [rW]
   have xu:(a.map fun s=>[GV.v (ii s)])[k]?=some [GV.v (ii a[k])]:=by rw [aS,nP];rfl
   have HK:(b.map fun s=>[GV.v (ii s)])[k]?=some [GV.v (ii b[k])]:=by rw [aS,po];rfl
   generalize a[k]=x at *;generalize b[k]=y at *
   cases lG:(x==y) with
   | true =>
    have hn:(x != y)=false:=by simp only [bne,lG];rfl
    have b8:(!(x==y))=false:=by rw [lG];rfl
    refine zbS ?_;exact zcE
   | false =>
    have hn:(x != y)=true:=by simp only [bne,lG];rfl
    have b8:(!(x==y))=true:=by rw [lG];rfl
    exact zfo
  ·rintro _ _ ⟨rfl,rfl,my⟩;exact zcr
 ·have hd:(((a.map fun s=>[GV.v (ii s)]).length:Int) != ((b.map fun s=>[GV.v (ii s)]).length:Int))=true:=by rw [mr,rX];simpa using by omega
  rw [tQ hl];refine ah func169 ntmps169 ?_;exact al
open Go.Xp (Nd)
open Go.Im (tK mD)
theorem Td (a b:Go.Sp.Fn) (ha:a.params.length<=1099511627776) (hb:b.params.length<=1099511627776):GF prog 121 [.agg (au a),.agg (au b)] [] (.v (.bool (tK a b))) []:=by
 have he:=JZ a.params b.params ha hb;unfold tK au
 cases I:(a.name==b.name) with
 | false =>
  refine ah func121 ntmps121 ?_;exact al
 | true =>
  cases M:gx (fun x y=>x==y) a.params b.params with
  | false =>
   exact zer
  | true =>
   exact zer
theorem Nk (a b:Nd) (ha:a.kids.length<=1099511627776) (hb:b.kids.length<=1099511627776):GF prog 123 [.agg (ay a),.agg (ay b)] [] (.v (.bool (mD a b))) []:=by
 have he:=U8 a.kids b.kids ha hb;unfold mD ay;generalize gx (fun x y=>x==y) a.kids b.kids=q at *
 cases I:(a.kind==b.kind) with
 | false =>
  exact zeF
 | true =>
  cases M:(a.n==b.n) with
  | false =>
   exact zeF
  | true =>
   cases h3:(a.s==b.s) with
   | false =>
    exact zeF
   | true =>
    refine ah func123 ntmps123 ?_;refine V [] he ?_;exact al
theorem Jh (a b:List Go.Sp.Fn) (ha:a.length<=1099511627776) (hb:b.length<=1099511627776) (ka:∀ x∈a,x.params.length<=1099511627776) (kb:∀ x∈b,x.params.length<=1099511627776) :
  GF prog 120 [.sl 3 (a.map au),.sl 3 (b.map au),.v (.func (.func 121) #[] #[])] [] (.v (.bool (gx tK a b))) []:=by
 have mr:(a.map au).length=a.length:=by simp
 have rX:(b.map au).length=b.length:=by simp
 by_cases hl:a.length=b.length
 ·have hd:(((a.map au).length:Int) != ((b.map au).length:Int))=false:=by rw [mr,rX,hl];simp
  refine ah func120 ntmps120 ?_;refine GW.range (a.map au).length (fun k fr Γ=>fr=[U,.sl 3 (b.map au),.v (.func (.func 121) #[] #[]),U,U,U,U,U,U,U,U,U,U,U,U,.sl 3 (a.map au),.v (ii ((a.map au).length:Int)),.v (ii (k:Nat)),U,U,U,U,U,U,U,U,U,U,U,U,U,U]/\Γ=[]/\vi tK a b k) ?_ G ?_ ?_ ?_
  ·exact zbm
  ·exact jd
  ·rintro k _ _ aj ⟨rfl,rfl,my⟩;rw [mr] at aj
   have nP:a[k]?=some a[k]:=by simp [aj]
   have rW:k < b.length:=by omega
   have po:b[k]?=some b[k]:=by simp [rW]
   have xu:(a.map au)[k]?=some (au a[k]):=by rw [aS,nP];rfl
   have HK:(b.map au)[k]?=some (au b[k]):=by rw [aS,po];rfl
   have hs:=Td a[k] b[k] (ka _ (getElem_mem aj)) (kb _ (getElem_mem rW));generalize a[k]=x at *;generalize b[k]=y at *;unfold au at xu HK hs
   cases lG:tK x y with
   | true =>
    exact zbW
   | false =>
    rw [lG] at hs;rw [tR nP po (p:=tK) lG];refine D ?_;refine jX [] hs ?_;exact ax
  ·rintro _ _ ⟨rfl,rfl,my⟩;exact zcr
 ·have hd:(((a.map au).length:Int) != ((b.map au).length:Int))=true:=by rw [mr,rX];simpa using by omega
  rw [tQ hl];refine ah func120 ntmps120 ?_;exact al
theorem Ji (a b:List Nd) (ha:a.length<=1099511627776) (hb:b.length<=1099511627776) (ka:∀ x∈a,x.kids.length<=1099511627776) (kb:∀ x∈b,x.kids.length<=1099511627776) :
  GF prog 122 [.sl 5 (a.map ay),.sl 5 (b.map ay),.v (.func (.func 123) #[] #[])] [] (.v (.bool (gx mD a b))) []:=by
 have mr:(a.map ay).length=a.length:=by simp
 have rX:(b.map ay).length=b.length:=by simp
 by_cases hl:a.length=b.length
 ·have hd:(((a.map ay).length:Int) != ((b.map ay).length:Int))=false:=by rw [mr,rX,hl];simp
  refine ah func122 ntmps122 ?_;refine GW.range (a.map ay).length (fun k fr Γ=>fr=[U,.sl 5 (b.map ay),.v (.func (.func 123) #[] #[]),U,U,U,U,U,U,U,U,U,U,U,U,.sl 5 (a.map ay),.v (ii ((a.map ay).length:Int)),.v (ii (k:Nat)),U,U,U,U,U,U,U,U,U,U,U,U,U,U]/\Γ=[]/\vi mD a b k) ?_ G ?_ ?_ ?_
  ·exact zbm
  ·exact jd
  ·rintro k _ _ aj ⟨rfl,rfl,my⟩;rw [mr] at aj
   have nP:a[k]?=some a[k]:=by simp [aj]
   have rW:k < b.length:=by omega
   have po:b[k]?=some b[k]:=by simp [rW]
   have xu:(a.map ay)[k]?=some (ay a[k]):=by rw [aS,nP];rfl
   have HK:(b.map ay)[k]?=some (ay b[k]):=by rw [aS,po];rfl
   have hs:=Nk a[k] b[k] (ka _ (getElem_mem aj)) (kb _ (getElem_mem rW));generalize a[k]=x at *;generalize b[k]=y at *;unfold ay at xu HK hs
   cases lG:mD x y with
   | true =>
    exact zbW
   | false =>
    rw [lG] at hs;rw [tR nP po (p:=mD) lG];refine D ?_;refine jX [] hs ?_;exact ax
  ·rintro _ _ ⟨rfl,rfl,my⟩;exact zcr
 ·have hd:(((a.map ay).length:Int) != ((b.map ay).length:Int))=true:=by rw [mr,rX];simpa using by omega
  rw [tQ hl];refine ah func122 ntmps122 ?_;exact al
end Go.Xg
namespace Go.Xg
open Go.RowKit Go.Xw Go.Proofs Tryz
open GV (U)
open Go.Xp (Nd Ar)
open Go.Im (Bo gx tQ tR vi nN pd)
theorem ZD (w:World) (s s':ae) (n n':Int):(Op.equalIn 10000 56 (.agg #[sv s,ii n]) (.agg #[sv s',ii n'])).run prog w=.ok ((s==s')&&(n==n')) w:=by
 have hf:(prog.fieldsOf 56).toList=[(prog.fieldsOf 56)[0]!,(prog.fieldsOf 56)[1]!]:=by kernel_rfl
 have a0:((prog.fieldsOf 56)[0]!).type=9:=by kernel_rfl
 have a1:((prog.fieldsOf 56)[1]!).type=3:=by kernel_rfl
 have b0:((prog.fieldsOf 56)[0]!).offset=0:=by kernel_rfl
 have b1:((prog.fieldsOf 56)[1]!).offset=1:=by kernel_rfl
 have c0:((prog.fieldsOf 56)[0]!).name = "Name" := by kernel_rfl
 have c1:((prog.fieldsOf 56)[1]!).name = "Size" := by kernel_rfl
 rw [show (10000:Nat)=9999+1 from rfl,run_equalIn_agg w 9999 _ _ _ (by kernel_rfl) (by kernel_rfl),hf];generalize (prog.fieldsOf 56)[0]! = f0 at *;generalize (prog.fieldsOf 56)[1]! = di at *
 have hs:prog.underlying 9=some .string:=by kernel_rfl
 have hi:prog.underlying 3=some (.int .i64):=by kernel_rfl
 have p0:∀ (a:ae) (b:Int) w,(part f0.type #[sv a,ii b] f0.offset).run prog w=.ok (sv a) w:=fun a b w=>by
  rw [a0,b0];rfl
 have p1:∀ (a:ae) (b:Int) w,(part di.type #[sv a,ii b] di.offset).run prog w=.ok (ii b) w:=fun a b w=>by
  rw [a1,b1];rfl
 have e0:∀ w,(Op.equalIn 9999 f0.type (sv s) (sv s')).run prog w=.ok (s==s') w:=fun w=>by
  rw [a0,show (9999:Nat)=9998+1 from rfl];have:=run_equalIn_string (P:=prog) w 9998 9 ⟨s.toArray⟩ ⟨s'.toArray⟩ hs;rw [show sv s=.string ⟨s.toArray⟩ from rfl,show sv s'=.string ⟨s'.toArray⟩ from rfl,this];simp [toList_mk]
 have e1:∀ w,(Op.equalIn 9999 di.type (ii n) (ii n')).run prog w=.ok (n==n') w:=fun w=>by
  rw [a1,show (9999:Nat)=9998+1 from rfl];exact run_equalIn_int (P:=prog) w 9998 3 .i64 .i64 n n' hi
 have n0:f0.name ≠ "_" := by rw [c0];decide
 have n1:di.name ≠ "_" := by rw [c1];decide
 rw [Op.eqFields,ab n0];simp only [Sem.run_bind,p0,Result.andThen_ok,e0]
 cases s==s' with
 | false=>simp
 | true =>
  simp only [Bool.not_true,Bool.false_eq_true,if_false,Bool.true_and];rw [Op.eqFields,ab n1];simp only [Sem.run_bind,p1,Result.andThen_ok,e1]
  cases n==n' with
  | false=>simp
  | true=>simp [Op.eqFields]
theorem YG.YF {fr:List GV} {Γ:List Ob} {x y:Operand} {t':TypeId} {s s':ae} {n n':Int} (hx:be fr x=.agg [.v (sv s),.v (ii n)]) (hy:be fr y=.agg [.v (sv s'),.v (ii n')]) :
  YG prog (.binOp .neq 56 x y t') fr Γ (.v (.bool (!((s==s')&&(n==n'))))):=fun B K β w l hI hF=>by
 have two:∀ {v:Value} {a b:Value},Rel K β v (.agg [.v a,.v b])->v=.agg #[a,b]:=fun {v a b} h=>by
  cases h with
  | agg vs _ hl hh =>
   match vs,hl with
   | [u1,u2],_ =>
    have I:=Rel.fF (hh 0 u1 (.v a) rfl rfl);have M:=Rel.fF (hh 1 u2 (.v b) rfl rfl);rw [I,M]
 have tX:=two (by rw [<-hx];exact hF.ev x);have Yn:=two (by rw [<-hy];exact hF.ev y);refine ⟨_,fun d ty pos af=>?_,.v _⟩;have hg:=run_eqGuard_agg (P:=prog) w .neq 56 x y #[sv s,ii n] #[sv s',ii n'] (by kernel_rfl);have hn:=run_neq_struct (P:=prog) w 56 #[sv s,ii n] #[sv s',ii n'];rw [ZD,Result.andThen_ok] at hn;simp [execOp,tX,Yn,hg,hn]
attribute [local irreducible] GW GL GO YG GC GA aW aZ
theorem U7 (a b:List Ar) (ha:a.length<=1099511627776) (hb:b.length<=1099511627776):GF prog 119 [(.sl 2 (a.map fun s=>aB s)),(.sl 2 (b.map fun s=>aB s))] [] (.v (.bool (gx Bo a b))) []:=by
 have mr:(a.map fun s=>aB s).length=a.length:=by simp
 have rX:(b.map fun s=>aB s).length=b.length:=by simp
 by_cases hl:a.length=b.length
 ·have hd:(((a.map fun s=>aB s).length:Int) != ((b.map fun s=>aB s).length:Int))=false:=by rw [mr,rX,hl];simp
  refine ah func119 ntmps119 ?_;refine GW.range (a.map fun s=>aB s).length (fun k fr Γ=>fr=[(.sl 2 (a.map fun s=>aB s)),(.sl 2 (b.map fun s=>aB s)),U,U,U,U,U,U,U,U,U,U,.v (ii ((a.map fun s=>aB s).length:Int)),.v (ii (k:Nat)),U,U,U,U,U,U,U,U,U,U,U,U]/\Γ=[]/\vi Bo a b k) ?_ G ?_ ?_ ?_
  ·exact zbm
  ·exact jd
  ·rintro k _ _ aj ⟨rfl,rfl,my⟩;rw [mr] at aj
   have nP:a[k]?=some a[k]:=by simp [aj]
   have rW:k < b.length:=by omega
   have po:b[k]?=some b[k]:=by simp [rW]
   have xu:(a.map fun s=>aB s)[k]?=some (aB a[k]):=by rw [aS,nP];rfl
   have HK:(b.map fun s=>aB s)[k]?=some (aB b[k]):=by rw [aS,po];rfl
   generalize a[k]=x at *;generalize b[k]=y at *;unfold aB at xu HK
   cases lG:Bo x y with
   | true =>
    have b8:(!((x.name==y.name)&&(x.size==y.size)))=false:=by rw [show ((x.name==y.name)&&(x.size==y.size))=Bo x y from rfl,lG];rfl
    refine zbS ?_;refine ao ?_;apply OP
    ·exact rfl
    ·intro Γ;exact YG.YF rfl rfl
    refine U0 ?_;exact zcE
   | false =>
    have b8:(!((x.name==y.name)&&(x.size==y.size)))=true:=by rw [show ((x.name==y.name)&&(x.size==y.size))=Bo x y from rfl,lG];rfl
    rw [tR nP po (p:=Bo) lG];refine zbS ?_;refine ao ?_;apply OP
    ·exact rfl
    ·intro Γ;exact YG.YF rfl rfl
    refine U0 ?_;exact zcD
  ·rintro _ _ ⟨rfl,rfl,my⟩;exact zcr
 ·have hd:(((a.map fun s=>aB s).length:Int) != ((b.map fun s=>aB s).length:Int))=true:=by rw [mr,rX];simpa using by omega
  rw [tQ hl];refine ah func119 ntmps119 ?_;exact al
end Go.Xg
set_option maxHeartbeats 1000000
namespace Go.Xg
open Go.RowKit Go.Xw Go.Proofs Tryz Go.Sp Go.Im
open GV (U)
open Go.Xp (Tok Nd T bD one levels ja eN fp ei dR qp)
attribute [local irreducible] GW GL GO YG GC GA aW aZ
structure J0 (f:Nat):Prop where
 expr:∀ d p t q x,p.ok->d+f<=1099511627776->iE f (.expr d) p=some (t,q)->GF prog 271 [.loc 0 0,.v (ii (d:Nat))] [cr p x] (qT t) [cr q x]
 level:∀ k d p t q x,p.ok->k<=9->d+f<=1099511627776->iE f (.level k d) p=some (t,q)->GF prog 282 [.loc 0 0,.v (ii (k:Nat)),.v (ii (d:Nat))] [cr p x] (qT t) [cr q x]
 operand:∀ d p t q x,p.ok->d+f<=1099511627776->iE f (.operand d) p=some (t,q)->GF prog 289 [.loc 0 0,.v (ii (d:Nat))] [cr p x] (qT t) [cr q x]
 exprs:∀ d p l q x,p.ok->d+f<=1099511627776->iA f d [] p=some (l,q)->GF prog 291 [.loc 0 0,.v (ii (d:Nat))] [cr p x] (.sl 1 (ke l)) [cr q x]
theorem Jd:GF prog 246 [.v (ii 0),.v (ii 0),.v (sv []),.sl 1 []] [] (qT T.zero) []:=fD 0 0 [] [] [] rfl
theorem W4 {f:Nat} (C:J0 f) (d:Nat) (p:RS) (t:T) (q:RS) (x:PX) (hp:p.ok) (hd:d+(f+1)<=1099511627776) (h:iE (f+1) (.expr d) p=some (t,q)) :
  GF prog 271 [.loc 0 0,.v (ii (d:Nat))] [cr p x] (qT t) [cr q x]:=by
 rw [iE] at h;have eH:=yj p d x hp
 by_cases hc:(ct p d).code=0
 ·have eg:((ct p d).code==0)=true:=by simpa using hc
  rw [ab hc] at h;rw [eg] at eH;rw [qv hc] at h eH;have hl:=C.level 0 (d+1) p t q x hp G G h;refine ah func271 ntmps271 ?_;refine V [0] eH ?_;refine V [0] hl ?_;exact al
 ·have eg:((ct p d).code==0)=false:=by simpa using hc
  rw [F hc] at h;rw [eg] at eH;cases h;refine ah func271 ntmps271 ?_;exact zdN
theorem VT {f:Nat} (C:∀ f',f'<=f->J0 f') (k d:Nat) (p:RS) (t:T) (q:RS) (x:PX) (hp:p.ok) (hk:k<=9) (hd:d+(f+1)<=1099511627776) (h:iE (f+1) (.level k d) p=some (t,q)) :
  GF prog 282 [.loc 0 0,.v (ii (k:Nat)),.v (ii (d:Nat))] [cr p x] (qT t) [cr q x]:=by
 rw [iE] at h
 by_cases Dd:k=9
 ·subst Dd;rw [ab rfl] at h;have ho:=(C f (aD _)).operand d p t q x hp G h;refine ah func282 ntmps282 ?_;refine V [] vD ?_;refine V [0] ho ?_;exact al
 ·rw [F Dd] at h
  have abt:((k:Int)==9)=false:=by simp;omega
  cases he:iE f (.level (k+1) d) p with
  | none=>exact za2
  | some r =>
   obtain ⟨out,p1⟩:=r;rw [he] at h;simp only at h;have lE:=((kB f).1 _ _ _ _ hp he).ok hp;have hl:=(C f (aD _)).level (k+1) d p out p1 x hp G G he;refine ah func282 ntmps282 ?_;refine V [] vD ?_;refine V [0] hl ?_;refine GW.loop (fun z:Nat × T × RS=>z.1) (fun z fr Γ=>fr=[.loc 0 0,.v (ii (k:Nat)),.v (ii (d:Nat)),U,U,U,U,qT z.2.1,U,U,U,U,U,U,U,U,U,U,U,U,U,U,U,U,U,U,U,U,U,U,U,U,U,U,U,U,U,U,U,U,U,U,U,U,U,U,U,U,U,U,U,U,U,U,U,U,U,U,U,U,U,U,U,U]/\Γ=[cr z.2.2 x]/\z.2.2.ok/\z.1<=f/\iE z.1 (.loop k d z.2.1) z.2.2=some (t,q)) (f,out,p1) ?_ ?_
   ·exact ⟨_,_,Wk.aC ak,rfl,rfl,lE,aD _,h⟩
   ·clear h he hl;rintro ⟨g,out,p⟩ _ _ ⟨rfl,rfl,hp,Pm,h⟩;simp only at hp Pm h
    cases g with
    | zero=>simp [iE] at h
    | succ g =>
    rw [iE] at h
    have hk:k < 9:=by omega
    have ht:=tM p 0 x hp aP
    by_cases hc:p.code=0
    ·have eg:(p.code==0)=true:=by simpa using hc
     by_cases h3:(tok p 0).kind=3
     ·have lV:((tok p 0).kind==3)=true:=by simpa using h3
      have KH:=Lb hk;have Ui:=kh (levels.getD k []) (tok p 0).s (Ep k hk)
      by_cases hit:(levels.getD k []).contains (tok p 0).s=true
      ·rw [ab ⟨hc,h3,hit⟩] at h;rw [hit] at Ui;have aj:p.i < p.l.length:=ue (k:=0) G;have cW:=hp.2
       cases hb:iE g (.level (k+1) d) p.next with
       | none=>exact za5
       | some r =>
        obtain ⟨b,p2⟩:=r;rw [hb] at h;simp only at h;have dK:=(ek aj).ok hp;have et:=((kB g).1 _ _ _ _ dK hb).ok dK
        have gM:=(C g G).level (k+1) d p.next b p2 x dK G G hb
        generalize tok p 0=tk at *;have jP:=fD 6 tk.at_ tk.s [out,b] [[qT out],[qT b]] (gR _);refine zeZ ?_;refine D ?_;refine zd7 ?_;refine aL (aE 0 9 (.a 9 (.a 10 (.a 11 (.q 12 .nil))))) ?_;refine ao ?_;refine aI [0] gM ?_;refine zay ?_;refine aI [] jP ?_;refine D ?_;exact ⟨(g,one 6 tk.at_ tk.s [out,b],p2),⟨_,_,(Wk.cut (n:=1) (dr rfl) rfl).trans (Wk.aC ak),rfl,rfl,et,by omega,h⟩,by simp⟩
      ·have hit:(levels.getD k []).contains (tok p 0).s=false:=by simpa using hit
       rw [F (by rw [hit];simp)] at h
       obtain ⟨rfl,rfl⟩:out=t/\p=q:=by simpa using h
       rw [hit] at Ui;generalize tok p 0=tk at *;refine zeZ ?_;exact zaF
     ·have lV:((tok p 0).kind==3)=false:=by simpa using h3
      rw [F (fun hh=>h3 hh.2.1)] at h
      obtain ⟨rfl,rfl⟩:out=t/\p=q:=by simpa using h
      generalize tok p 0=tk at *;refine zaN ?_;refine ao ?_;refine b7 [0] ht ?_;exact zaF
    ·have eg:(p.code==0)=false:=by simpa using hc
     rw [F (fun hh=>hc hh.1)] at h
     obtain ⟨rfl,rfl⟩:out=t/\p=q:=by simpa using h
     refine zaN ?_;refine bo ?_;refine kJ ?_;exact ax
theorem Vv {f:Nat} (C:∀ f',f'<=f->J0 f') (d:Nat) (p:RS) (l:List T) (q:RS) (x:PX) (hp:p.ok) (hd:d+(f+1)<=1099511627776) (h:iA (f+1) d [] p=some (l,q)) :
  GF prog 291 [.loc 0 0,.v (ii (d:Nat))] [cr p x] (.sl 1 (ke l)) [cr q x]:=by
 refine ah func291 ntmps291 ?_;refine GW.wk (Wk.w6 (t:=5) (a:=none) (c:=0) 131 1 rfl) ?_;refine GW.loop (fun z:Nat × List T × RS=>z.1) (fun z fr Γ=>∃ n rows,fr=[.loc 0 0,.v (ii (d:Nat)),U,U,U,.vec 1 n,U,U,U,U,U,U,U,U,U,U,U,U,U,U,U,U,U,U,U,U,U,U,U,U,U,U]/\Γ=[cr z.2.2 x,.vec 131 1 0 rows]/\rows.length=n/\rows=ke z.2.1/\n+z.1<=f+1/\z.2.2.ok/\iA z.1 d z.2.1 z.2.2=some (l,q)) (f+1,[],p) ?_ ?_
 ·exact ⟨_,_,Wk.aC ak,0,[],rfl,rfl,rfl,rfl,by simp,hp,h⟩
 ·clear h hp;rintro ⟨g,acc,p⟩ _ _ ⟨n,rows,rfl,rfl,hn,bI,BG,hp,h⟩;simp only at bI BG hp h
  cases g with
  | zero=>simp [iA] at h
  | succ g =>
  rw [iA] at h;have hi:=lI p 0 [41] x hp aP
  have mT:acc.length=n:=by rw [<-hn,bI,mb]
  by_cases hc:p.code=0
  ·have eg:(p.code==0)=true:=by simpa using hc
   cases hs:is p 0 [41] with
   | true =>
    rw [hs] at hi;rw [F (fun hh=>by have:=hh.2;rw [hs] at this;cases this)] at h
    obtain ⟨rfl,rfl⟩:acc=l/\want p [41]=q:=by simpa using h
    have hw:=fO p [41] x hp;subst bI;refine zbX ?_;refine kJ ?_;refine D ?_;exact zeB
   | false =>
    rw [hs] at hi;rw [ab ⟨hc,hs⟩] at h
    by_cases h0:acc.length=0
    ·rw [ab h0] at h
     have vl:decide ((0:Int) < (n:Int))=false:=by simpa using by omega
     cases hb:iE g (.expr d) p with
     | none=>exact za5
     | some r =>
      obtain ⟨a,p2⟩:=r;rw [hb] at h;simp only at h;have et:=((kB g).1 _ _ _ _ hp hb).ok hp;have he:=(C g G).expr d p a p2 x hp G hb;refine zbX ?_;exact zbL
    ·rw [F h0] at h
     have vl:decide ((0:Int) < (n:Int))=true:=by simpa using by omega
     have nQ:=(cS hp [44]).ok hp;have hw:=fO p [44] x hp
     cases hb:iE g (.expr d) (want p [44]) with
     | none=>exact za5
     | some r =>
      obtain ⟨a,p2⟩:=r;rw [hb] at h;simp only at h;have et:=((kB g).1 _ _ _ _ nQ hb).ok nQ;have he:=(C g G).expr d _ a p2 x nQ G hb;refine zbX ?_;refine zaP ?_;exact zbL
  ·have eg:(p.code==0)=false:=by simpa using hc
   rw [F (fun hh=>hc hh.1)] at h
   obtain ⟨rfl,rfl⟩:acc=l/\want p [41]=q:=by simpa using h
   have hw:=fO p [41] x hp;subst bI;refine zbA ?_;exact zeB
theorem Qp {f:Nat} (C:J0 f) (d:Nat) (p:RS) (t:T) (q:RS) (x:PX) (hp:p.ok) (hd:d+(f+1)<=1099511627776) (h:iE (f+1) (.operand d) p=some (t,q)) :
  GF prog 289 [.loc 0 0,.v (ii (d:Nat))] [cr p x] (qT t) [cr q x]:=by
 rw [iE] at h;have eH:=yj p d x hp;have ht:=tM p 0 x hp aP
 by_cases hc:(ct p d).code=0
 case neg =>
  have eg:((ct p d).code==0)=false:=by simpa using hc
  rw [F hc] at h;rw [eg] at eH;cases h;refine ah func289 ntmps289 ?_;refine zd7 ?_;exact zdN
 case pos =>
 have eg:((ct p d).code==0)=true:=by simpa using hc
 rw [ab hc] at h;rw [eg,qv hc] at eH;clear hc eg;have I:=lI p 0 [45] x hp aP;have M:=lI p 0 [33] x hp aP;have h3:=lI p 0 [126] x hp aP;have cW:=hp.2;have Fy:=hp.1
 cases iI:is p 0 [45] with
 | true =>
  rw [iI] at I;rw [ab (.inl iI)] at h;have aj:p.i < p.l.length:=is_lt (k:=0) iI;have dK:=(ek aj).ok hp
  cases hb:iE f (.operand (d+1)) p.next with
  | none=>exact za5
  | some r =>
   obtain ⟨b,p2⟩:=r;rw [hb] at h;cases h
   have zU:=C.operand (d+1) p.next b _ x dK G hb
   generalize tok p 0=tk at *;have jP:=fD 5 tk.at_ tk.s [b] [[qT b]] (gR _);refine ah func289 ntmps289 ?_;refine zd7 ?_;refine V [0] eH ?_;refine V [0] I ?_;exact zaU
 | false =>
 rw [iI] at I
 cases kz:is p 0 [33] with
 | true =>
  rw [kz] at M;rw [ab (.inr (.inl kz))] at h;have aj:p.i < p.l.length:=is_lt (k:=0) kz;have dK:=(ek aj).ok hp
  cases hb:iE f (.operand (d+1)) p.next with
  | none=>exact za5
  | some r =>
   obtain ⟨b,p2⟩:=r;rw [hb] at h;cases h
   have zU:=C.operand (d+1) p.next b _ x dK G hb
   generalize tok p 0=tk at *;have jP:=fD 5 tk.at_ tk.s [b] [[qT b]] (gR _);refine ah func289 ntmps289 ?_;refine zad ?_;exact zaU
 | false =>
 rw [kz] at M
 cases uF:is p 0 [126] with
 | true =>
  rw [uF] at h3;rw [ab (.inr (.inr uF))] at h;have aj:p.i < p.l.length:=is_lt (k:=0) uF;have dK:=(ek aj).ok hp
  cases hb:iE f (.operand (d+1)) p.next with
  | none=>exact za5
  | some r =>
   obtain ⟨b,p2⟩:=r;rw [hb] at h;cases h
   have zU:=C.operand (d+1) p.next b _ x dK G hb
   generalize tok p 0=tk at *;have jP:=fD 5 tk.at_ tk.s [b] [[qT b]] (gR _);refine ah func289 ntmps289 ?_;refine zad ?_;refine V [0] h3 ?_;exact zaU
 | false =>
 rw [uF] at h3;rw [F (by rw [iI,kz,uF];decide)] at h
 by_cases hk:(tok p 0).kind=1
 case pos =>
  rw [ab hk] at h;have aj:p.i < p.l.length:=ue (k:=0) G
  have nz:((tok p 0).kind==1)=true:=by simpa using hk
  cases h;generalize tok p 0=tk at *;have jP:=Qj 1 tk.at_ [] [];refine ah func289 ntmps289 ?_;refine zad ?_;refine V [0] h3 ?_;refine V [] jP ?_;refine GW.wk (Wk.freeze (i:=2) rfl rfl rfl (dr rfl)) ?_;exact al
 case neg =>
 rw [F hk] at h
 have nz:((tok p 0).kind==1)=false:=by simpa using hk
 have h4:=lI p 0 [40] x hp aP
 cases hs4:is p 0 [40] with
 | true =>
  rw [hs4] at h4;rw [ab hs4] at h;have aj:p.i < p.l.length:=is_lt (k:=0) hs4;have dK:=(ek aj).ok hp
  cases hb:iE f (.expr (d+1)) p.next with
  | none=>exact za5
  | some r =>
   obtain ⟨b,p2⟩:=r;rw [hb] at h;cases h;have et:=((kB f).1 _ _ _ _ dK hb).ok dK
   have zU:=C.expr (d+1) p.next _ p2 x dK G hb
   have hw:=fO p2 [41] x et;generalize tok p 0=tk at *;refine ah func289 ntmps289 ?_;refine za8 ?_;refine V [0] zU ?_;refine zaP ?_;exact al
 | false =>
 rw [hs4] at h4;rw [F (by rw [hs4];decide)] at h;have hn:=sY p x hp;have dK:=(jt hp).ok hp
 by_cases jF:(bF p).code=0
 case neg =>
  rw [F jF] at h
  have abj:((bF p).code != 0)=true:=by simpa using jF
  cases h;generalize tok p 0=tk at *;generalize bF p=p1 at *;have jP:=fD 2 tk.at_ tk.s [] [] rfl;refine ah func289 ntmps289 ?_;refine za8 ?_;refine V [0] hn ?_;refine V [] jP ?_;exact al
 case pos =>
 rw [ab jF] at h
 have abj:((bF p).code != 0)=false:=by simpa using jF
 generalize bF p=p1 at *;generalize tok p 0=tk at *;have h5:=lI p1 0 [91] x dK aP;have acr:=dK.2;have acq:=dK.1
 cases hs5:is p1 0 [91] with
 | true =>
  rw [hs5] at h5;rw [ab hs5] at h;have aj:p1.i < p1.l.length:=is_lt (k:=0) hs5;have HJ:=(ek aj).ok dK
  cases hb:iE f (.expr (d+1)) p1.next with
  | none=>exact za5
  | some r =>
   obtain ⟨b,p2⟩:=r;rw [hb] at h;cases h;have et:=((kB f).1 _ _ _ _ HJ hb).ok HJ
   have zU:=C.expr (d+1) p1.next b p2 x HJ G hb
   have hw:=fO p2 [93] x et;have jP:=fD 3 tk.at_ tk.s [b] [[qT b]] (gR _);refine ah func289 ntmps289 ?_;refine za8 ?_;refine V [0] hn ?_;refine V [0] h5 ?_;refine V [0] zU ?_;exact zcZ
 | false =>
 rw [hs5] at h5;rw [F (by rw [hs5];decide)] at h;have h6:=lI p1 0 [40] x dK aP
 cases hs6:is p1 0 [40] with
 | true =>
  rw [hs6] at h6;rw [ab hs6] at h;have aj:p1.i < p1.l.length:=is_lt (k:=0) hs6;have HJ:=(ek aj).ok dK
  cases hb:iA f (d+1) [] p1.next with
  | none=>exact za5
  | some r =>
   obtain ⟨b,p2⟩:=r;rw [hb] at h;cases h
   have zU:=C.exprs (d+1) p1.next b _ x HJ G hb
   have jP:=fD 4 tk.at_ tk.s b (ke b) rfl;refine ah func289 ntmps289 ?_;refine za8 ?_;refine V [0] hn ?_;refine V [0] h5 ?_;refine V [0] h6 ?_;refine aL (aE 0 6 (.a 6 (.a 7 (.q 8 .nil)))) ?_;refine ao ?_;refine aI [0] zU ?_;refine aI [] jP ?_;exact ax
 | false =>
  rw [hs6] at h6;rw [F (by rw [hs6];decide)] at h;cases h;have jP:=fD 2 tk.at_ tk.s [] [] rfl;refine ah func289 ntmps289 ?_;refine za8 ?_;refine V [0] hn ?_;refine V [0] h5 ?_;refine V [0] h6 ?_;refine V [] jP ?_;exact al
theorem ies (f:Nat):J0 f:=by
 induction f using Nat.strongRecOn with
 | _ f ih =>
  cases f with
  | zero=>exact ⟨fun d p t q x _ _ h=>by simp [iE] at h,fun k d p t q x _ _ _ h=>by simp [iE] at h,fun d p t q x _ _ h=>by simp [iE] at h,fun d p l q x _ _ h=>by simp [iA] at h⟩
  | succ f =>
   have C:=ih f (Nat.lt_succ_self f)
   have Cs:∀ f',f'<=f->J0 f':=fun f' h=>ih f' (Nat.lt_succ_of_le h)
   exact ⟨fun d p t q x hp hd h=>W4 C d p t q x hp hd h,fun k d p t q x hp hk hd h=>VT Cs k d p t q x hp hk hd h,fun d p t q x hp hd h=>Qp C d p t q x hp hd h,fun d p l q x hp hd h=>Vv Cs d p l q x hp hd h⟩
end Go.Xg
namespace Go.Im
open Go.Xp Go.Sp
def Y5 (f d:Nat) (p:RS):Option (T × RS) :=
 if (tok p 0).kind=2/\is p 1 [61]=true then match iE f (.expr (d+1)) (want (bF p) [61]) with
  | none=>none
  | some (e,q)=>some (one 7 (tok p 0).at_ (tok p 0).s [e],want q [59])
 else match iE f (.expr (d+1)) p with
  | none=>none
  | some (e,q) =>
   if yN p q e then match e.kids,iE f (.expr (d+1)) (want q [61]) with
    | a::_,some (v,q)=>some (one 8 (tok p 0).at_ e.n.s [a,v],want q [59])
    | _,_=>none
   else some (one 12 (tok p 0).at_ [] [e],want q [59])
end Go.Im
namespace Go.Xg
open Go.RowKit Go.Xw Go.Proofs Tryz Go.Sp Go.Im
open GV (U)
open Go.Xp (Tok Nd T bD one levels ja eN fp ei dR qp)
attribute [local irreducible] GW GL GO YG GC GA aW aZ
theorem Tk {f:Nat} (d:Nat) (p:RS) (t:T) (q:RS) (x:PX) (hp:p.ok) (hd:d+1+f<=1099511627776) (h:Y5 f d p=some (t,q)) :
  GF prog 272 [.loc 0 0,.v (ii (d:Nat))] [cr p x] (qT t) [cr q x]:=by
 unfold Y5 at h;have C:=ies f;have ht:=tM p 0 x hp aP;have hi:=lI p 1 [61] x hp aP
 have main:∀ kk,((tok p 0).kind==2)=kk->(kk=true->is p 1 [61]=false)->GF prog 272 [.loc 0 0,.v (ii (d:Nat))] [cr p x] (qT t) [cr q x]:=by
  intro kk hk rV
  rw [F (fun hh=>by
   have I:kk=true:=by rw [<-hk];simpa using hh.1
   have M:=rV I
   rw [hh.2] at M;cases M)] at h
  cases he:iE f (.expr (d+1)) p with
  | none=>exact za2
  | some r =>
   obtain ⟨e,q1⟩:=r;rw [he] at h;simp only at h;have qC:=((kB f).1 _ _ _ _ hp he).ok hp;have acx:=qC.1;have acy:=qC.2;have hex:=C.expr (d+1) p e q1 x hp G he;have Ul:=lI q1 0 [61] x qC aP
   have Hq:e.n.kind=3->q1.code=0->∃ BV,q1.l[q1.i - 1]?=some BV/\wC q1=BV.s/\1<=q1.i:=by
    intro _ hc;have I:=Yp f _ _ _ _ hp he hc (fun k d out h=>by cases h);have M:=qC.1
    have aj:q1.i - 1 < q1.l.length:=by omega
    exact ⟨q1.l[q1.i - 1],by simp [aj],by unfold wC;simp [aj],by omega⟩
   by_cases jJ:yN p q1 e
   ·rw [ab jJ] at h;have mw:=jJ;obtain ⟨s1,s2,s3,s4,s5,s6⟩:=mw;obtain ⟨BV,a1,a2,a3⟩:=Hq s1 s2
    have gy:kk=true:=by rw [<-hk];simpa using s5
    subst gy;have BD:=rV rfl;rw [BD] at hi;rw [s6] at Ul
    match Fv:e.kids,hv:iE f (.expr (d+1)) (want q1 [61]),h with
    | a::rk,some (v,q2),h =>
     cases h;have nQ:=(cS qC [61]).ok qC;have Dk:=((kB f).1 _ _ _ _ nQ hv).ok nQ;have hw:=fO q1 [61] x qC;have abn:=C.expr (d+1) _ v q2 x nQ G hv;have qD:=fO q2 [59] x Dk;have hr:=me a1;have eh:(ke e.kids)[0]?=some [qT a]:=Ao (by rw [Fv];rfl);have Us:(ke (a::rk))[0]?=some [qT a]:=Ao rfl
     have b1:(e.n.kind==3)=true:=by simpa using s1
     have b2:(q1.code==0)=true:=by simpa using s2
     have b3:(BV.s==[93])=true:=by rw [<-a2];simpa using s3
     have b4:(e.n.at_==(tok p 0).at_)=true:=by simpa using s4
     have jP:=fD 8 (tok p 0).at_ e.n.s [a,v] [[qT a],[qT v]] (gR _);generalize tok p 0=tk at *;refine ah func272 ntmps272 ?_;refine zd7 ?_;refine V [0] hi ?_;refine V [0] hex ?_;refine aL (aE 0 45 (.a 45 (.q 46 .nil))) ?_;refine ao ?_;refine b7 [0] Ul ?_;refine D ?_;refine zaP ?_;refine V [0] abn ?_;refine zak ?_;refine V [0] qD ?_;refine aL (aE 0 14 (.a 14 (.a 15 (.q 16 .nil)))) ?_;refine ao ?_;refine zay ?_;refine aI [] jP ?_;exact ax
    | [],_,h=>simp at h
    | _::_,none,h=>simp at h
   ·rw [F jJ] at h;cases h;have hw:=fO q1 [59] x qC;have jP:=fD 12 (tok p 0).at_ [] [e] [[qT e]] (gR _)
    cases kk with
    | true =>
     have BD:=rV rfl;rw [BD] at hi;refine ah func272 ntmps272 ?_;refine zd7 ?_;refine V [0] hi ?_;refine V [0] hex ?_;refine GW.join (fun fr Γ=>fr=[.loc 0 0,.v (ii (d:Nat)),U,U,U,.loc 1 0,U,U,qT e,U,U,U,U,U,U,U,U,U,U,U,U,U,U,U,U,U,U,U,U,U,U,U,U,U,U,U,U,U,U,U,U,U,U,U,U,U,U,U,U,U,U,U,U,U,U,U,U,U,U,U,U,U,U,U,U,U,U,U,U,U,U,U,U,U,U,U,U,U,U,U,U,U,U,U,U,U,U,.v (.bool false),U,U,U,U,U,U,U,U,U,U,U,U,U,U,U,U,U,U,U,U,U,U,U,U,U,U,U,U,U,U,U,U,U,U]/\Γ=[cr q1 x,.box 183 (dP (tok p 0))]) ?_ ?_
     ·by_cases s1:e.n.kind=3
      ·have b1:(e.n.kind==3)=true:=by simpa using s1
       by_cases s2:q1.code=0
       ·have b2:(q1.code==0)=true:=by simpa using s2
        obtain ⟨BV,a1,a2,a3⟩:=Hq s1 s2;have hr:=me a1
        by_cases s3:wC q1=[93]
        ·have b3:(BV.s==[93])=true:=by rw [<-a2];simpa using s3
         by_cases s4:e.n.at_=(tok p 0).at_
         ·have b4:(e.n.at_==(tok p 0).at_)=true:=by simpa using s4
          have s6:is q1 0 [61]=false:=by
           cases h6:is q1 0 [61] with
           | false=>rfl
           | true=>exact absurd ⟨s1,s2,s3,s4,by simpa using hk,h6⟩ jJ
          rw [s6] at Ul;generalize tok p 0=tk at *;refine aL (aE 0 45 (.a 45 (.q 46 .nil))) ?_;refine ao ?_;refine b7 [0] Ul ?_;exact jv
         ·have b4:(e.n.at_==(tok p 0).at_)=false:=by simpa using s4
          exact zaf
        ·have b3:(BV.s==[93])=false:=by rw [<-a2];simpa using s3
         exact zaf
       ·have b2:(q1.code==0)=false:=by simpa using s2
        exact zaf
      ·have b1:(e.n.kind==3)=false:=by simpa using s1
       exact zaf
     ·rintro _ _ ⟨rfl,rfl⟩;generalize tok p 0=tk at *;refine D ?_;exact zcZ
    | false =>
     refine ah func272 ntmps272 ?_;refine zd7 ?_;refine V [0] hex ?_;refine GW.join (fun fr Γ=>fr=[.loc 0 0,.v (ii (d:Nat)),U,U,U,.loc 1 0,U,U,qT e,U,U,U,U,U,U,U,U,U,U,U,U,U,U,U,U,U,U,U,U,U,U,U,U,U,U,U,U,U,U,U,U,U,U,U,U,U,U,U,U,U,U,U,U,U,U,U,U,U,U,U,U,U,U,U,U,U,U,U,U,U,U,U,U,U,U,U,U,U,U,U,U,U,U,U,U,U,U,.v (.bool false),U,U,U,U,U,U,U,U,U,U,U,U,U,U,U,U,U,U,U,U,U,U,U,U,U,U,U,U,U,U,U,U,U,U]/\Γ=[cr q1 x,.box 183 (dP (tok p 0))]) ?_ ?_
     ·by_cases s1:e.n.kind=3
      ·have b1:(e.n.kind==3)=true:=by simpa using s1
       by_cases s2:q1.code=0
       ·have b2:(q1.code==0)=true:=by simpa using s2
        obtain ⟨BV,a1,a2,a3⟩:=Hq s1 s2;have hr:=me a1
        by_cases s3:wC q1=[93]
        ·have b3:(BV.s==[93])=true:=by rw [<-a2];simpa using s3
         by_cases s4:e.n.at_=(tok p 0).at_
         ·have b4:(e.n.at_==(tok p 0).at_)=true:=by simpa using s4
          exact zaf
         ·have b4:(e.n.at_==(tok p 0).at_)=false:=by simpa using s4
          exact zaf
        ·have b3:(BV.s==[93])=false:=by rw [<-a2];simpa using s3
         exact zaf
       ·have b2:(q1.code==0)=false:=by simpa using s2
        exact zaf
      ·have b1:(e.n.kind==3)=false:=by simpa using s1
       exact zaf
     ·rintro _ _ ⟨rfl,rfl⟩;generalize tok p 0=tk at *;refine D ?_;exact zcZ
 by_cases hk:(tok p 0).kind=2
 ·cases BD:is p 1 [61] with
  | true =>
   clear main;rw [ab ⟨hk,BD⟩] at h;rw [BD] at hi
   have nz:((tok p 0).kind==2)=true:=by simpa using hk
   have hn:=sY p x hp;have dK:=(jt hp).ok hp;have hw:=fO (bF p) [61] x dK;have nQ:=(cS dK [61]).ok dK
   cases he:iE f (.expr (d+1)) (want (bF p) [61]) with
   | none=>exact za2
   | some r =>
    obtain ⟨e,q1⟩:=r;rw [he] at h;cases h;have qC:=((kB f).1 _ _ _ _ nQ he).ok nQ;have hex:=C.expr (d+1) _ e q1 x nQ G he;have qD:=fO q1 [59] x qC;have jP:=fD 7 (tok p 0).at_ (tok p 0).s [e] [[qT e]] (gR _);generalize tok p 0=tk at *;refine ah func272 ntmps272 ?_;refine zd7 ?_;refine V [0] hi ?_;refine V [0] hn ?_;refine zaP ?_;exact zbu
  | false=>exact main true zf8 (fun _=>BD)
 ·exact main false zf8 (fun h=>by cases h)
open Go.Xp (sN)
theorem Qi (k a:Int) (s:ae):GF prog 246 [.v (ii k),.v (ii a),.v (sv s),.v (.slice none 0 0)] [] (.loc 0 0) [.box 170 [.v (ii k),.v (ii a),.v (ii 0),.v (sv s),.v (.slice none 0 0),.v (.slice none 0 0)]]:=by
 refine ah func246 ntmps246 ?_;refine GW.wk (Wk.cells 0 rfl (ds:=[.v (ii k),.v (ii a),.v (ii 0),.v (sv s),.v (.slice none 0 0),.v (.slice none 0 0)]) kp) ?_;exact zef
structure TM (f:Nat):Prop where
 block:∀ d p t q x,p.ok->d+3+f<=1099511627776->iS f (.block d) p=some (t,q)->GF prog 210 [.loc 0 0,.v (ii (d:Nat))] [cr p x] (qT t) [cr q x]
 stmt:∀ d p t q x,p.ok->d+3+f<=1099511627776->iS f (.stmt d) p=some (t,q)->GF prog 248 [.loc 0 0,.v (ii (d:Nat))] [cr p x] (qT t) [cr q x]
theorem Vf {f:Nat} (C:∀ f',f'<=f->TM f') (d:Nat) (p:RS) (t:T) (q:RS) (x:PX) (hp:p.ok) (hd:d+3+(f+1)<=1099511627776) (h:iS (f+1) (.block d) p=some (t,q)) :
  GF prog 210 [.loc 0 0,.v (ii (d:Nat))] [cr p x] (qT t) [cr q x]:=by
 rw [iS] at h;have eH:=yj p d x hp;have ht:=tM p 0 x hp aP;have Fw:=Qi 14 (tok p 0).at_ []
 by_cases hc:(ct p d).code=0
 case neg =>
  have eg:((ct p d).code==0)=false:=by simpa using hc
  rw [F hc] at h;rw [eg] at eH;cases h;generalize tok p 0=tk at *;refine ah func210 ntmps210 ?_;refine zd7 ?_;refine V [] Fw ?_;refine V [0] eH ?_;refine GW.wk (Wk.cells 1 rfl (ds:=[.v (ii 14),.v (ii tk.at_),.v (ii 0),.v (sv []),.v (.slice none 0 0),.sl 1 []]) kp) ?_;refine GW.wk (Wk.freeze (i:=1) rfl rfl rfl (dr rfl)) ?_;exact al
 case pos =>
 have eg:((ct p d).code==0)=true:=by simpa using hc
 rw [ab hc] at h;rw [eg,qv hc] at eH;clear hc eg;have nQ:=(cS hp [123]).ok hp;have hw:=fO p [123] x hp
 cases he:iB f (d+1) [] (want p [123]) with
 | none=>exact za2
 | some r =>
  obtain ⟨l,q1⟩:=r;rw [he] at h;cases h;generalize tok p 0=tk at *;refine ah func210 ntmps210 ?_;refine zd7 ?_;refine V [] Fw ?_;refine V [0] eH ?_;refine zaP ?_;refine GW.wk (Wk.Ez (i:=1) (o:=5) 131 1 rfl rfl) ?_;refine GW.loop (fun z:Nat × List T × RS=>z.1) (fun z fr Γ=>∃ n rows,fr=[.loc 0 0,.v (ii (d:Nat)),U,U,U,.loc 1 0,U,U,U,U,U,U,U,U,U,U,U,U,U,U,U,U,U,U,U,U,U,U,U,U,U,U,U,U,U,U,U,U,U,U,U,U,U,U,U]/\Γ=[cr z.2.2 x,.box 170 [.v (ii 14),.v (ii tk.at_),.v (ii 0),.v (sv []),.v (.slice none 0 0),.vec 2 n],.vec 131 1 0 rows]/\rows.length=n/\rows=ke z.2.1/\n+z.1<=f/\z.2.2.ok/\iB z.1 (d+1) z.2.1 z.2.2=some (l,q1)) (f,[],want p [123]) ?_ ?_
  ·exact ⟨_,_,Wk.aC ak,0,[],rfl,rfl,rfl,rfl,by simp,nQ,he⟩
  ·clear he nQ hw eH ht;rintro ⟨g,acc,p⟩ _ _ ⟨n,rows,rfl,rfl,hn,bI,BG,hp,h⟩;simp only at bI BG hp h
   cases g with
   | zero=>simp [iB] at h
   | succ g =>
   rw [iB] at h;have hi:=lI p 0 [125] x hp aP
   by_cases hc:p.code=0
   ·have eg:(p.code==0)=true:=by simpa using hc
    cases hs:is p 0 [125] with
    | true =>
     rw [hs] at hi;rw [F (fun hh=>by have:=hh.2;rw [hs] at this;cases this)] at h
     obtain ⟨rfl,rfl⟩:acc=l/\p=q1:=by simpa using h
     have hw:=fO p [125] x hp;subst bI;refine zbX ?_;refine kJ ?_;refine D ?_;exact zcB
    | false =>
     rw [hs] at hi;rw [ab ⟨hc,hs⟩] at h
     cases hb:iS g (.stmt (d+1)) p with
     | none=>exact za5
     | some r =>
      obtain ⟨a,p2⟩:=r;rw [hb] at h;simp only at h;have et:=((Gs g).1 _ _ _ _ hp hb).ok hp;have bW:=(C g G).stmt (d+1) p a p2 x hp G hb;refine zbX ?_;refine aL (aE 0 8 (.a 8 (.a 9 (.a 10 (.q 11 (.q 12 (.a 13 .nil))))))) ?_;refine ao ?_;refine aI [0] bW ?_;refine zay ?_;refine tw ?_;refine bo ?_;exact ⟨(g,acc++[a],p2),⟨_,_,Wk.aC ak,_,_,rfl,rfl,by simp [hn],by rw [xN,bI];rfl,by show n+1+g<=f;omega,et,h⟩,by simp⟩
   ·have eg:(p.code==0)=false:=by simpa using hc
    rw [F (fun hh=>hc hh.1)] at h
    obtain ⟨rfl,rfl⟩:acc=l/\p=q1:=by simpa using h
    have hw:=fO p [125] x hp;subst bI;refine zbA ?_;exact zcB
theorem Zc {f:Nat} (C:TM f) (d:Nat) (p:RS) (t:T) (q:RS) (x:PX) (hp:p.ok) (hd:d+3+(f+1)<=1099511627776) (h:iS (f+1) (.stmt d) p=some (t,q)) :
  GF prog 248 [.loc 0 0,.v (ii (d:Nat))] [cr p x] (qT t) [cr q x]:=by
 rw [iS] at h;have E:=ies f;have eH:=yj p d x hp;have ht:=tM p 0 x hp aP
 by_cases hc:(ct p d).code=0
 case neg =>
  have eg:((ct p d).code==0)=false:=by simpa using hc
  rw [F hc] at h;rw [eg] at eH;cases h;refine ah func248 ntmps248 ?_;refine zd7 ?_;exact zdN
 case pos =>
 have eg:((ct p d).code==0)=true:=by simpa using hc
 rw [ab hc] at h;rw [eg,qv hc] at eH;clear hc eg;have cW:=hp.2;have Fy:=hp.1;have I:=lI p 0 ja x hp aP;have M:=lI p 0 eN x hp aP;have h3:=lI p 0 ei x hp aP;have h4:=lI p 0 dR x hp aP
 cases iI:is p 0 ja with
 | true =>
  rw [iI] at I;rw [ab iI] at h;have aj:p.i < p.l.length:=is_lt (k:=0) iI;have dK:=(ek aj).ok hp
  have hn:=sY p.next x dK
  have sH:=(jt dK).ok dK;have hw:=fO _ [61] x sH;have nQ:=(cS sH [61]).ok sH
  cases he:iE f (.expr (d+1)) (want (bF p.next) [61]) with
  | none=>exact za2
  | some r =>
   obtain ⟨e,q1⟩:=r;rw [he] at h;cases h;have qC:=((kB f).1 _ _ _ _ nQ he).ok nQ;have hex:=E.expr (d+1) _ e q1 x nQ G he;have qD:=fO q1 [59] x qC;have jP:=fD 13 (tok p 0).at_ (tok p.next 0).s [e] [[qT e]] (gR _);generalize tok p 0=tk at *
   generalize tok p.next 0=tn at *
   refine ah func248 ntmps248 ?_;refine zd7 ?_;refine V [0] eH ?_;refine V [0] I ?_;refine V [0] hn ?_;refine zaP ?_;exact zbu
 | false =>
 rw [iI] at I;rw [F (by rw [iI];decide)] at h
 have main:∀ bi bw:Bool,is p 0 eN=bi->is p 0 ei=bw->(bi=true\/bw=true)->GF prog 248 [.loc 0 0,.v (ii (d:Nat))] [cr p x] (qT t) [cr q x]:=by
  intro bi bw xo hbw xt
  have oR:is p 0 eN=true\/is p 0 ei=true:=by rw [xo,hbw];exact xt
  have aj:p.i < p.l.length:=by rcases oR with hh | hh <;> exact is_lt (k:=0) hh
  rw [ab oR] at h;have dK:=(ek aj).ok hp
  have hw:=fO p.next [40] x dK
  have nQ:=(cS dK [40]).ok dK
  cases he:iE f (.expr (d+1)) (want p.next [40]) with
  | none=>exact za2
  | some r =>
  obtain ⟨c,q1⟩:=r;rw [he] at h;simp only at h;have qC:=((kB f).1 _ _ _ _ nQ he).ok nQ;have hex:=E.expr (d+1) _ c q1 x nQ G he;have qD:=fO q1 [41] x qC;have Ur:=(cS qC [41]).ok qC
  cases hb:iS f (.block (d+1)) (want q1 [41]) with
  | none=>exact za5
  | some r =>
  obtain ⟨b,q2⟩:=r;rw [hb] at h;simp only at h;have Dk:=((Gs f).1 _ _ _ _ Ur hb).ok Ur;have acA:=Dk.2;have acz:=Dk.1;have dY:=C.block (d+1) _ b q2 x Ur G hb;have dJ:=lI q2 0 fp x Dk aP;rw [xo] at M;rw [hbw] at h3
  cases bi with
  | true =>
   have ME:∀ (cc ee:Bool),(q2.code==0)=cc->is q2 0 fp=ee->(cc=false\/ee=false)->GF prog 248 [.loc 0 0,.v (ii (d:Nat))] [cr p x] (qT t) [cr q x]:=by
    intro cc ee vn za Ya
    rw [F (fun hh=>by
     rcases Ya with h0 | h0
     ·rw [h0] at vn;have:=hh.2.1;simp [this] at vn
     ·rw [h0] at za;rw [za] at hh;exact absurd hh.2.2 aP),ab xo] at h
    cases h;rw [za] at dJ;have jP:=fD 9 (tok p 0).at_ [] [c,b] [[qT c],[qT b]] (gR _);generalize tok p 0=tk at *
    cases cc with
    | true =>
     cases ee with
     | true=>simp at Ya
     | false =>
      refine ah func248 ntmps248 ?_;refine zad ?_;refine zcx ?_;refine V [0] dJ ?_;exact zbg
    | false =>
     refine ah func248 ntmps248 ?_;refine zad ?_;refine zcx ?_;exact zbg
   by_cases lC:q2.code=0
   ·cases za:is q2 0 fp with
    | true =>
     clear ME;rw [ab ⟨xo,lC,za⟩] at h;rw [za] at dJ
     have vn:(q2.code==0)=true:=by simpa using lC
     have oI:q2.i < q2.l.length:=is_lt (k:=0) za;have hqn:=(ek oI).ok Dk
     cases fJ:iS f (.block (d+1)) q2.next with
     | none=>rw [fJ] at h;cases h
     | some r =>
      obtain ⟨b2,q3⟩:=r;rw [fJ] at h;cases h;have ZK:=C.block (d+1) _ b2 _ x hqn G fJ;have jP:=fD 9 (tok p 0).at_ [] [c,b,b2] [[qT c],[qT b],[qT b2]] (gR _);generalize tok p 0=tk at *;refine ah func248 ntmps248 ?_;refine zad ?_;refine zcx ?_;refine V [0] dJ ?_;refine V [0] ZK ?_;refine zaX ?_;exact zbg
    | false=>exact ME true false (by simpa using lC) za (.inr rfl)
   ·exact ME false _ (by simpa using lC) rfl (.inl rfl)
  | false =>
   have abh:bw=true:=by simpa using xt
   subst abh;rw [F (fun hh=>by have:=hh.1;rw [xo] at this;cases this),F (by rw [xo];decide)] at h;cases h;have jP:=fD 10 (tok p 0).at_ [] [c,b] [[qT c],[qT b]] (gR _);generalize tok p 0=tk at *;refine ah func248 ntmps248 ?_;refine zad ?_;refine V [0] h3 ?_;refine zcx ?_;exact zbg
 cases kz:is p 0 eN with
 | true=>exact main true _ kz rfl (.inl rfl)
 | false =>
 cases uF:is p 0 ei with
 | true=>exact main false true kz uF (.inr rfl)
 | false =>
 clear main;rw [kz] at M;rw [uF] at h3;rw [F (by rw [kz,uF];decide)] at h
 cases hs4:is p 0 dR with
 | true =>
  rw [hs4] at h4;rw [ab hs4] at h;have aj:p.i < p.l.length:=is_lt (k:=0) hs4;have dK:=(ek aj).ok hp
  cases he:iE f (.expr (d+1)) p.next with
  | none=>exact za2
  | some r =>
   obtain ⟨e,q1⟩:=r;rw [he] at h;cases h;have qC:=((kB f).1 _ _ _ _ dK he).ok dK;have hex:=E.expr (d+1) _ e q1 x dK G he;have qD:=fO q1 [59] x qC;have jP:=fD 11 (tok p 0).at_ [] [e] [[qT e]] (gR _);generalize tok p 0=tk at *;refine ah func248 ntmps248 ?_;refine za8 ?_;exact zbu
 | false =>
  rw [hs4] at h4;rw [F (by rw [hs4];decide)] at h;have Yk:=Tk (f:=f) d p t q x hp G h;generalize tok p 0=tk at *;refine ah func248 ntmps248 ?_;refine za8 ?_;refine V [0] Yk ?_;exact al
theorem iss (f:Nat):TM f:=by
 induction f using Nat.strongRecOn with
 | _ f ih =>
  cases f with
  | zero=>exact ⟨fun d p t q x _ _ h=>by simp [iS] at h,fun d p t q x _ _ h=>by simp [iS] at h⟩
  | succ f =>
   have C:=ih f (Nat.lt_succ_self f)
   have Cs:∀ f',f'<=f->TM f':=fun f' h=>ih f' (Nat.lt_succ_of_le h)
   exact ⟨fun d p t q x hp hd h=>Vf Cs d p t q x hp hd h,fun d p t q x hp hd h=>Zc C d p t q x hp hd h⟩
end Go.Xg
namespace Go.Xg
open Go.RowKit Go.Xw Go.Proofs Tryz
open GV (U)
open Go.Xp (Tok Nd T aJ az gL bU bh)
attribute [local irreducible] GW GL GO YG GC GA aW aZ
def uv (n:Nd):List GV:=[.v (ii n.kind),.v (ii n.at_),.v (ii n.n),.v (sv n.s),ints n.kids]
def EG (t:T) (x:Value):List GV:=[.v (ii t.n.kind),.v (ii t.n.at_),.v (ii t.n.n),.v (sv t.n.s),.v x]
theorem OK:∀ (N:Nat) (t:T),aJ t<=N->∀ (n:Nat) (rows:List (List GV)) (a:Option Addr) (c:Nat),rows.length=n->n+aJ t<=1099511627776 ->
  GC prog 126 [.v (.slice a n c),qT t] [.vech 62 5 rows (.slice a n c)] fun g aR=>∃ a c,g=.v (.slice a (n+aJ t) c)/\aR=[.vech 62 5 (rows++(gL n t).map uv) (.slice a (n+aJ t) c)]:=by
 intro N
 induction N with
 | zero=>intro t h;rw [Go.Xp.eB] at h;omega
 | succ N ih =>
 intro t hN n rows a c hn hb;subst hn;rw [Go.Xp.eB] at hb hN;have fB:=Go.Xp.bK t.kids;refine ah func126 ntmps126 ?_;refine zb2 ?_;intro a c;refine zaM ?_;refine GW.wk (Wk.iN 3 1) ?_
 refine GW.range (ke t.kids).length (fun k fr Γ=>∃ a c a2 c2,fr=[.v (.slice a (rows.length+1+az (t.kids.take k)) c),qT t,U,U,U,.v (ii (rows.length:Nat)),U,U,U,U,U,U,U,U,U,U,U,U,U,U,.sl 1 (ke t.kids),.v (ii ((ke t.kids).length:Int)),.v (ii (k:Nat)),U,U,U,U,U,U,U,U,U,U,U,U,U,U,U,U,U,U,U,U,U] /\
  Γ=[.vech 62 5 (rows++EG t (.slice a2 k c2)::(bU (rows.length+1) (t.kids.take k)).map uv) (.slice a (rows.length+1+az (t.kids.take k)) c),.vech 3 1 ((bh (rows.length+1) (t.kids.take k)).map fun z=>[.v (ii z)]) (.slice a2 k c2)]) ?_ (by rw [mb];omega) ?_ ?_ ?_
 ·refine ⟨_,_,Wk.aC ak,a,c,none,0,rfl,?_⟩;rfl
 ·rintro k _ _ ⟨a,c,a2,c2,rfl,rfl⟩;exact dp
 ·rintro k _ _ aj ⟨a,c,a2,c2,rfl,rfl⟩;rw [mb] at aj;obtain ⟨kid,lg⟩:∃ kid,t.kids[k]?=some kid:=⟨t.kids[k],by simp [aj]⟩;have hr:=Ao lg;have cX:=Go.Xp.km lg;have hle:=Go.Xp.kl t.kids (k+1)
  have jQ:t.kids.take (k+1)=t.kids.take k++[kid]:=by rw [bS,lg];rfl
  have hX:((bU (rows.length+1) (t.kids.take k)).map uv).length=az (t.kids.take k):=by rw [bV,Go.Xp.jA]
  have Fv:((bh (rows.length+1) (t.kids.take k)).map fun z=>[GV.v (ii z)]).length=k:=by rw [bV,Go.Xp.c6,du];omega
  rw [jQ,Go.Xp.pZ,Go.Xp.nt,Go.Xp.jE];simp only [bh,bU,az,bO,Nat.add_zero,kK,List.map_cons,map_nil,<-gn]
  have vr:=fun (rs:List (List GV)) a c h=>ih kid G (rows.length+1+az (t.kids.take k)) rs a c h G
  generalize (bU (rows.length+1) (t.kids.take k)).map uv=X at *;generalize ((bh (rows.length+1) (t.kids.take k)).map fun z=>[GV.v (ii z)])=ks at *;generalize az (t.kids.take k)=s at *;subst Fv
  have gM:∀ r:List GV,(rows++r::X).length=rows.length+1+s:=fun r=>by simp;omega
  have bI:(rows++EG t (.slice a2 ks.length c2)::X)[rows.length]?=some (EG t (.slice a2 ks.length c2)):=by simp
  have fK:=gM (EG t (.slice a2 ks.length c2));unfold EG at bI fK |-;refine zal ?_;intro a3 c3;exact za6
 ·rintro _ _ ⟨a,c,a2,c2,rfl,rfl⟩;rw [mb,bH];rw [Go.Xp.eB,Go.Xp.Hc]
  have Fv:((bh (rows.length+1) t.kids).map fun z=>[GV.v (ii z)]).length=t.kids.length:=by rw [bV,Go.Xp.c6]
  have rV:ints (bh (rows.length+1) t.kids)=.sl 1 ((bh (rows.length+1) t.kids).map fun z=>[GV.v (ii z)]):=rfl;rw [List.map_cons];simp only [uv,EG];rw [rV,show rows.length+(az t.kids+1)=rows.length+1+az t.kids by omega];generalize (bU (rows.length+1) t.kids).map uv=X at *;generalize ((bh (rows.length+1) t.kids).map fun z=>[GV.v (ii z)])=ks at *;generalize az t.kids=s at *
  have bI:∀ r:List GV,(rows++r::X)[rows.length]?=some r:=fun r=>by simp
  refine aY ?_;apply GW.wk
  ·apply Wk.Gv (i:=0) (idx:=rows.length) (o:=4) (j:=1)
   ·rfl
   ·exact bI _
   ·rfl
   ·rfl
   ·rfl
  rw [yR];simp only [bp];refine zc5 ?_;exact zdP
open Go.Sp Go.Im
open Go.Xp (bD one levels ja eN fp ei dR nj oB qp Ar)
structure HW where
 aT:Option Addr
 cT:Nat
 aG:Option Addr
 cG:Nat
 aA:Option Addr
 cA:Nat
 aF:Option Addr
 cF:Nat
def th (x:Ar):List GV:=[.v (sv x.name),.v (ii x.size)]
def so (x:ae × List ae):List GV:=[.v (sv x.1),strs x.2,.v (ii 0)]
def mY (x:ae):List GV:=[.v (sv x)]
abbrev hx (st:PS) (h:HW):PX:=⟨.slice h.aT st.trees.length h.cT,.slice h.aG st.globals.length h.cG,.slice h.aA st.arrays.length h.cA,.slice h.aF st.fns.length h.cF,.slice none 0 0⟩
abbrev wX (p:RS) (st:PS) (h:HW):List Ob:=[cr p (hx st h),.vech 131 1 (ke st.trees) (.slice h.aT st.trees.length h.cT),.vech 9 1 (st.globals.map mY) (.slice h.aG st.globals.length h.cG),.vech 56 2 (st.arrays.map th) (.slice h.aA st.arrays.length h.cA),.vech 58 3 (st.fns.map so) (.slice h.aF st.fns.length h.cF)]
theorem yC {α β:Type} (g:α->β) (l:List α) (x:α):(l++[x]).map g=l.map g++[g x]:=by simp
theorem Rc {f:Nat} (p:RS) (st:PS) (h:HW) (q:RS) (eV:PS) (n:Nat) (hp:p.ok) (hn:st.le n) (hb:n+1<=1099511627776) (hs:is p 0 nj=true) (hw:iW f p st=some (q,eV)) :
  GC prog 168 [.loc 0 0] (wX p st h) (fun g aR=>g=.tup []/\∃ h',aR=wX q eV h'):=by
 obtain ⟨Fy,cW⟩:=id hp;obtain ⟨Dh,b8,Pt,XY⟩:=hn;unfold iW at hw;rw [ab hs] at hw;have hi:=lI p 0 nj (hx st h) hp aP;rw [hs] at hi;have lE:=(lh hs).ok hp
 have fm:=sY p.next (hx st h) lE
 have et:=(jt lE).ok lE;generalize (tok p.next 0).s=s at *
 generalize bF p.next=p2 at *
 have uA:=lI p2 0 [91] (hx st h) et aP
 have ab9:¬ (p2.code=0/\is p2 0 [91]=true)->True:=fun _=>trivial
 cases hc:(p2.code==0) with
 | false =>
  have eg:¬ p2.code=0:=by simpa using hc
  rw [F (fun hh=>eg hh.1)] at hw;cases hw
  have zN:(st.globals.map mY).length+1=(st.globals++[s]).length:=by simp
  have rm:st.globals.map mY++[[GV.v (sv s)]]=(st.globals++[s]).map mY:=by simp [mY]
  have hlen:(st.globals.map mY).length+1<=1099511627776:=by simp;omega
  refine ah func168 ntmps168 ?_;refine zeY ?_;exact zaK
 | true =>
  have eg:p2.code=0:=by simpa using hc
  cases fJ:is p2 0 [91] with
  | false =>
   rw [fJ] at uA;rw [F (fun hh=>by have:=hh.2;rw [fJ] at this;cases this)] at hw;cases hw
   have zN:(st.globals.map mY).length+1=(st.globals++[s]).length:=by simp
   have rm:st.globals.map mY++[[GV.v (sv s)]]=(st.globals++[s]).map mY:=by simp [mY]
   have hlen:(st.globals.map mY).length+1<=1099511627776:=by simp;omega
   refine ah func168 ntmps168 ?_;refine zeY ?_;refine V [0] uA ?_;exact zaK
  | true =>
   rw [fJ] at uA;rw [ab ⟨eg,fJ⟩] at hw;have ze:=(lh fJ).ok et;have acs:=et.1;have Yb:=et.2;have acu:=ze.1;have acv:=ze.2
   have ht:=tM p2.next 0 (hx st h) ze aP
   have HS:=Bc p2.next (hx st h) ze
   have Hq:(tok p2.next 0).kind=1->p2.next.next.ok:=fun hk=>(ek (ue (p:=p2.next) (k:=0) (by rw [hk];decide))).ok ze
   generalize tok p2.next 0=tk at *
   by_cases hk:tk.kind=1
   ·rw [ab hk] at hw;cases hw
    have nz:(tk.kind != 1)=false:=by simpa using hk
    have KL:=Hq hk;have acw:=KL.1
    have HP:=fO p2.next.next [93] (hx st h) KL
    have hp5:=(cS KL [93]).ok KL
    generalize want p2.next.next [93]=p5 at *
    have zN:(st.arrays.map th).length+1=(st.arrays++[(⟨s,tk.n⟩:Ar)]).length:=by simp
    have rm:st.arrays.map th++[[GV.v (sv s),.v (ii tk.n)]]=(st.arrays++[(⟨s,tk.n⟩:Ar)]).map th:=by simp [th]
    have hlen:(st.arrays.map th).length+1<=1099511627776:=by simp;omega
    refine ah func168 ntmps168 ?_;refine zeY ?_;refine V [0] uA ?_;refine zd7 ?_;refine zak ?_;refine V [0] HP ?_;refine aL (aE 0 10 (.a 10 (.a 11 (aE 12 3 (.a 15 .nil))))) ?_;refine ao ?_;refine zay ?_;refine OA rfl rfl (GL.qP 3 rfl rfl rfl bc rfl rfl (by refine ⟨?_,?_⟩;(· show _+1<=_;omega);(· show (_+1) * _<=_;omega)) ?_);intro a c;refine cD ?_;generalize hX:chunk 1 2 _=X
    obtain rfl:X=[th ⟨s,tk.n⟩]:=by rw [<-hX];rfl
    clear hX
    try (generalize hX:chunk 1 2 _=X;obtain rfl:X=[th ⟨s,tk.n⟩]:=by rw [<-hX];rfl)
    rw [show (st.arrays.map th).length+[th ⟨s,tk.n⟩].length=(st.arrays++[(⟨s,tk.n⟩:Ar)]).length by simp,<-yC th st.arrays ⟨s,tk.n⟩];refine bo ?_;refine zak ?_;refine V [0] (fO p5 [59] (hx { st with arrays:=st.arrays++[⟨s,tk.n⟩] } { h with aA:=a,cA:=c }) hp5) ?_;refine cM ?_;exact ⟨rfl,{ h with aA:=a,cA:=c },rfl⟩
   ·rw [F hk] at hw;cases hw
    have nz:(tk.kind != 1)=true:=by simpa using hk
    refine ah func168 ntmps168 ?_;refine zeY ?_;refine V [0] uA ?_;refine zd7 ?_;refine V [0] HS ?_;exact zdz
theorem ND {f:Nat} (p:RS) (st:PS) (h:HW) (q:RS) (eV:PS) (hp:p.ok) (hs:is p 0 nj=false) (kz:is p 0 oB=false) (hw:iW f p st=some (q,eV)) :
  GC prog 168 [.loc 0 0] (wX p st h) (fun g aR=>g=.tup []/\∃ h',aR=wX q eV h'):=by
 unfold iW at hw;rw [F zf2,F (by rw [kz];decide)] at hw;cases hw;have hi:=lI p 0 nj (hx st h) hp aP;have uA:=lI p 0 oB (hx st h) hp aP;have HS:=Bc p (hx st h) hp;rw [hs] at hi;rw [kz] at uA;refine ah func168 ntmps168 ?_;refine V [0] hi ?_;refine V [0] uA ?_;refine V [0] HS ?_;exact zdz
abbrev ZB (p:RS) (st:PS) (h:HW) (s:ae) (acc:List ae) (a:Option Addr) (c:Nat):List Ob:=wX p st h++[.box 58 [.v (sv s),.v (.slice a acc.length c),.v (ii 0)],.vech 9 1 (acc.map mY) (.slice a acc.length c)]
theorem NF {f:Nat} (p:RS) (st:PS) (h:HW) (q:RS) (eV:PS) (n:Nat) (hp:p.ok) (hn:st.le n) (hb:n+f+4<=1099511627776) (xw:is p 0 nj=false) (hs:is p 0 oB=true) (hw:iW f p st=some (q,eV)) :
  GC prog 168 [.loc 0 0] (wX p st h) (fun g aR=>g=.tup []/\∃ h',aR=wX q eV h'):=by
 obtain ⟨Fy,cW⟩:=id hp;obtain ⟨Dh,b8,Pt,XY⟩:=hn;unfold iW at hw;rw [F (by rw [xw];decide),ab hs] at hw;have Pp:=lI p 0 nj (hx st h) hp aP;rw [xw] at Pp;have hi:=lI p 0 oB (hx st h) hp aP;rw [hs] at hi;have lE:=(lh hs).ok hp
 have fm:=sY p.next (hx st h) lE
 have et:=(jt lE).ok lE;generalize (tok p.next 0).s=s at *
 generalize bF p.next=p2 at *
 have qD:=fO p2 [40] (hx st h) et;have ze:=(cS et [40]).ok et;generalize want p2 [40]=p3 at *
 cases hm:qF f [] p3 with
 | none=>rw [hm] at hw;cases hw
 | some r =>
 obtain ⟨l,q1⟩:=r;rw [hm] at hw;simp only at hw;refine ah func168 ntmps168 ?_;refine V [0] Pp ?_;refine zeY ?_;refine zak ?_;refine V [0] qD ?_;refine GW.wk (Wk.iN 9 1) ?_;refine GW.loop (fun z:Nat × List ae × RS=>z.1) (fun z fr Γ=>∃ a c,fr=[.loc 0 0,U,U,U,.loc 5 0,U,U,U,U,U,U,U,U,U,U,U,U,U,U,U,U,U,U,U,U,U,U,U,U,U,U,U,U,U,U,U,U,U,U,U,U,U,U,U,U,U,U,U,U,U,U,U,U,U,U,U,U,U,U,U,U,U,U,U,U,U,U,U,U,U,U,U,U,U,U,U,U,U,U,U,U,U,U,U,U,U,U,U,U,U,U,U,U,U,U,U,U,U,U,U,U,U,U,U,U,U,U,U,U,U,U,U,U,U,U,U,U,U,U,U,U,U,U,U,U,U,U,U,U,U,U,U,U,U,U,U,U,U,U,U,U,U,U,U,U,U,U,U,U,U,U,U,U]/\Γ=ZB z.2.2 st h s z.2.1 a c/\z.2.2.ok/\z.2.1.length+z.1<=f/\qF z.1 z.2.1 z.2.2=some (l,q1)) (f,[],p3) ?_ ?_
 ·exact ⟨_,_,Wk.aC ak,none,0,rfl,rfl,ze,by simp,hm⟩
 clear hm ze qD et fm hi Pp lE;rintro ⟨g,acc,p⟩ _ _ ⟨a,c,rfl,rfl,hp,BG,hm⟩;simp only at hp BG hm
 cases g with
 | zero=>cases hm
 | succ g =>
 rw [qF] at hm;have hi:=lI p 0 [41] (hx st h) hp aP
 by_cases hgo:p.code=0/\is p 0 [41]=false
 ·obtain ⟨hc,uF⟩:=id hgo;rw [ab hgo] at hm;rw [uF] at hi
  have eg:(p.code==0)=true:=by simpa using hc
  by_cases h0:acc.length=0
  ·obtain rfl:=gC h0
   have hd:decide ((0:Int) < (([]:List ae).length:Int))=false:=by decide
   rw [ab (by rfl)] at hm;have fm:=sY p (hx st h) hp;have et:=(jt hp).ok hp;generalize (tok p 0).s=s2 at *;refine zbX ?_;refine zes ?_;refine OA rfl rfl (GL.qP 6 (news:=[mY s2]) rfl rfl rfl bc rfl rfl (by refine ⟨?_,?_⟩;(· show _+1<=_;omega);(· show (_+1) * _<=_;omega)) ?_);intro a2 c2;refine zbh ?_;exact ⟨(g,[s2],bF p),⟨_,_,Wk.aC ak,a2,c2,rfl,rfl,et,by simp at BG |-;omega,hm⟩,by simp⟩
  ·have hd:decide ((0:Int) < (acc.length:Int))=true:=by simpa using by omega
   rw [F h0] at hm;have hwc:=fO p [44] (hx st h) hp;have nQ:=(cS hp [44]).ok hp;generalize want p [44]=pw at *;have fm:=sY pw (hx st h) nQ;have et:=(jt nQ).ok nQ;generalize (tok pw 0).s=s2 at *
   have hlen:(acc.map mY).length<=f:=by simp;omega
   refine zbX ?_;refine zak ?_;refine V [0] hwc ?_;refine zes ?_;refine OA rfl rfl (GL.qP 6 (news:=[mY s2]) rfl rfl rfl bc rfl rfl (by refine ⟨?_,?_⟩;(· show _+1<=_;omega);(· show (_+1) * _<=_;omega)) ?_);intro a2 c2;refine cD ?_
   try rw [show (acc.map mY).length+1=(acc++[s2]).length by simp]
   rw [show (acc.map mY).length+[mY s2].length=(acc++[s2]).length by simp,<-yC mY acc s2];refine bo ?_;exact ⟨(g,acc++[s2],bF pw),⟨_,_,Wk.aC ak,a2,c2,rfl,rfl,et,by simp;omega,hm⟩,by simp⟩
 ·rw [F hgo] at hm
  obtain ⟨rfl,rfl⟩:acc=l/\want p [41]=q1:=by simpa using hm
  clear hm;have Uw:=fO p [41] (hx st h) hp;have hpq:=(cS hp [41]).ok hp
  have fK:(ke st.trees).length+1<=1099511627776:=by rw [mb];omega
  have gM:(st.fns.map so).length+1<=1099511627776:=by simp;omega
  by_cases hc:p.code=0
  ·have eg:(p.code==0)=true:=by simpa using hc
   have uF:is p 0 [41]=true:=by
    cases h3:is p 0 [41] with
    | true=>rfl
    | false=>exact absurd ⟨hc,h3⟩ hgo
   rw [uF] at hi
   by_cases hqc:(want p [41]).code=0
   ·have Se:((want p [41]).code==0)=true:=by simpa using hqc
    rw [ab hqc] at hw
    cases eT:iS f (.block 1) (want p [41]) with
    | none=>rw [eT] at hw;cases hw
    | some r =>
    obtain ⟨t,qq⟩:=r;rw [eT] at hw
    obtain ⟨rfl,rfl⟩:qq=q/\_=eV:=by simpa using hw
    have dY:=(iss f).block 1 _ t qq (hx st h) hpq G eT;clear eT hqc;generalize want p [41]=pq at *;refine zbX ?_;refine kJ ?_;refine D ?_;refine zak ?_;refine V [0] Uw ?_;refine zcG ?_;refine aI [0] dY ?_;refine zay ?_;refine OA rfl rfl (GL.qP 1 (news:=[[qT t]]) rfl rfl rfl bc rfl rfl (by refine ⟨?_,?_⟩;(· show _+1<=_;omega);(· show (_+1) * _<=_;omega)) ?_);intro a3 c3;refine cD ?_
    try rw [show (ke st.trees).length+1=(st.trees++[t]).length by simp [mb]]
    refine zeg ?_;apply GW.wk
    ·apply Wk.sr (i:=5) (o:=1) (j:=6)
     ·rfl
     ·rfl
     ·rfl
     ·rfl
    refine zeS ?_;refine OA rfl rfl (GL.qP 4 (news:=[so (s,acc)]) rfl rfl rfl bc rfl rfl (by refine ⟨?_,?_⟩;(· show _+1<=_;omega);(· show (_+1) * _<=_;omega)) ?_);intro a4 c4;refine cD ?_
    try rw [show (st.fns.map so).length+1=(st.fns++[(s,acc)]).length by simp]
    exact zbf
   ·have Se:((want p [41]).code==0)=false:=by simpa using hqc
    rw [F hqc] at hw;cases hw;clear hqc;generalize want p [41]=pq at *;refine zbX ?_;refine kJ ?_;refine D ?_;refine zak ?_;refine V [0] Uw ?_;exact zdz
  ·have eg:(p.code==0)=false:=by simpa using hc
   by_cases hqc:(want p [41]).code=0
   ·have Se:((want p [41]).code==0)=true:=by simpa using hqc
    rw [ab hqc] at hw
    cases eT:iS f (.block 1) (want p [41]) with
    | none=>rw [eT] at hw;cases hw
    | some r =>
    obtain ⟨t,qq⟩:=r;rw [eT] at hw
    obtain ⟨rfl,rfl⟩:qq=q/\_=eV:=by simpa using hw
    have dY:=(iss f).block 1 _ t qq (hx st h) hpq G eT;clear eT hqc;generalize want p [41]=pq at *;refine zbA ?_;refine zak ?_;refine V [0] Uw ?_;refine zcG ?_;refine aI [0] dY ?_;refine zay ?_;refine OA rfl rfl (GL.qP 1 (news:=[[qT t]]) rfl rfl rfl bc rfl rfl (by refine ⟨?_,?_⟩;(· show _+1<=_;omega);(· show (_+1) * _<=_;omega)) ?_);intro a3 c3;refine cD ?_
    try rw [show (ke st.trees).length+1=(st.trees++[t]).length by simp [mb]]
    refine zeg ?_;apply GW.wk
    ·apply Wk.sr (i:=5) (o:=1) (j:=6)
     ·rfl
     ·rfl
     ·rfl
     ·rfl
    refine zeS ?_;refine OA rfl rfl (GL.qP 4 (news:=[so (s,acc)]) rfl rfl rfl bc rfl rfl (by refine ⟨?_,?_⟩;(· show _+1<=_;omega);(· show (_+1) * _<=_;omega)) ?_);intro a4 c4;refine cD ?_
    try rw [show (st.fns.map so).length+1=(st.fns++[(s,acc)]).length by simp]
    exact zbf
   ·have Se:((want p [41]).code==0)=false:=by simpa using hqc
    rw [F hqc] at hw;cases hw;clear hqc;generalize want p [41]=pq at *;refine zbA ?_;refine zak ?_;refine V [0] Uw ?_;exact zdz
theorem WE {f:Nat} (p:RS) (st:PS) (h:HW) (q:RS) (eV:PS) (n:Nat) (hp:p.ok) (hn:st.le n) (hb:n+f+4<=1099511627776) (hw:iW f p st=some (q,eV)) :
  GC prog 168 [.loc 0 0] (wX p st h) (fun g aR=>g=.tup []/\∃ h',aR=wX q eV h'):=by
 cases I:is p 0 nj with
 | true=>exact Rc p st h q eV n hp hn G I hw
 | false =>
  cases M:is p 0 oB with
  | true=>exact NF p st h q eV n hp hn hb I M hw
  | false=>exact ND p st h q eV hp I M hw
def oV (fns:List (ae × List ae)) (trees:List T) (k:Nat):List (List GV):=fns.mapIdx fun i x=>[.v (sv x.1),strs x.2,.v (ii (if i < k then ((az (trees.take i):Nat):Int) else 0))]
theorem Iy:∀ (rows:List (List GV)) (i j o:Nat) (g:GV),(eL rows i o g)[j]?=if j=i then (rows[j]?).map (fun r=>bp r o g) else rows[j]?
 | [],i,j,o,g=>by simp [eL]
 | r::rs,0,0,o,g=>by simp [eL]
 | r::rs,0,j+1,o,g=>by simp [eL]
 | r::rs,i+1,0,o,g=>by simp [eL]
 | r::rs,i+1,j+1,o,g=>by
  rw [eL,List.getElem?_cons_succ,Iy rs i j o g];simp
theorem Wb (fns:List (ae × List ae)) (trees:List T):fns.map so=oV fns trees 0:=by
 apply List.ext_getElem?;intro i;rw [oV,getElem?_mapIdx,aS]
 cases fns[i]? <;> simp [so]
theorem QB (fns:List (ae × List ae)) (trees:List T) (k:Nat):eL (oV fns trees k) k 2 (.v (ii ((az (trees.take k):Nat):Int)))=oV fns trees (k+1):=by
 apply List.ext_getElem?;intro i;rw [Iy,oV,oV,getElem?_mapIdx,getElem?_mapIdx]
 by_cases h:i=k
 ·subst h;rw [ab rfl]
  cases fns[i]? with
  | none=>rfl
  | some x=>simp [bp]
 ·rw [F h]
  cases fns[i]? with
  | none=>rfl
  | some x =>
   have:(i < k)=(i < k+1):=by simp;omega
   simp [this]
theorem Tb {fns:List (ae × List ae)} {trees:List T} {k:Nat} (j:Nat) (h:k < fns.length):∃ x,(oV fns trees j)[k]?=some [.v (sv x.1),strs x.2,.v (ii (if k < j then ((az (trees.take k):Nat):Int) else 0))]/\fns[k]?=some x:=by
 refine ⟨fns[k],?_,by simp [h]⟩;rw [oV,getElem?_mapIdx];simp [h]
def Lv (q:RS) (st:PS):GV :=
 if q.code=0 then
  if az st.trees > 800 then .tup [.agg [.sl 1 [],.sl 2 [],.sl 3 [],.sl 5 []],.v (ii 10),.v (ii 0)]
  else .tup [.agg [.sl 1 (st.globals.map mY),.sl 2 (st.arrays.map th),.sl 3 (oV st.fns st.trees st.trees.length),.sl 5 ((bU 0 st.trees).map uv)],.v (ii 0),.v (ii 0)]
 else .tup [.agg [.sl 1 [],.sl 2 [],.sl 3 [],.sl 5 []],.v (ii q.code),.v (ii q.at_)]
theorem JP {acN f:Nat} (ts:List Tok) (e:Int) (q:RS) (st:PS) (hl:ts.length<=1099511627776) (hb:acN+f+4<=1099511627776) (hz:q.code=0->az st.trees<=1099511627776) (h:oS acN f ⟨ts,0,e,0,0⟩ .empty=some (q,st)) :
  GF prog 117 [jV ts,.v (ii e)] [] (Lv q st) []:=by
 unfold Lv;refine ah func117 ntmps117 ?_;refine GW.wk (Wk.iN 131 1) ?_;refine GW.wk (Wk.iN 9 1) ?_;refine GW.wk (Wk.iN 56 2) ?_;refine GW.wk (Wk.iN 58 3) ?_;refine GW.loop (fun z:Nat × RS × PS=>z.1) (fun z fr Γ=>∃ h n,fr=[jV ts,.v (ii e),U,U,.loc 0 0,.v (ii 0),.v (ii 0),.loc 1 0,U,U,U,U,U,U,U,U,U,U,U,U,U,U,U,U,U,U,U,U,U,U,U,U,U,U,U,U,U,U,U,U,U,U,U,U,U,U,U,U,U,U,U,U,U,U,U,U,U,U,U,U,U,U,U,U,U,U,U,U,U,U,U,U,U,U,U,U,U,U,U]/\Γ=.box 33 [.v (.slice none 0 0),.v (.slice none 0 0),.v (.slice none 0 0),.v (.slice none 0 0)]::wX z.2.1 z.2.2 h/\z.2.1.l=ts/\z.2.1.ok/\z.2.2.le n/\n+z.1<=acN/\oS z.1 f z.2.1 z.2.2=some (q,st)) (acN,⟨ts,0,e,0,0⟩,.empty) ?_ ?_
 ·exact ⟨_,_,Wk.aC ak,⟨none,0,none,0,none,0,none,0⟩,0,rfl,rfl,rfl,⟨aO _,hl⟩,⟨aD _,aD _,aD _,rfl⟩,by simp,h⟩
 clear h;rintro ⟨g,p,s⟩ _ _ ⟨hd,n,rfl,rfl,cW,hp,hn,BG,h⟩;simp only at cW hp hn BG h
 cases g with
 | zero=>cases h
 | succ g =>
 rw [oS] at h
 by_cases hgo:p.code=0/\p.i < p.l.length
 ·rw [ab hgo] at h
  have eg:(p.code==0)=true:=by simpa using hgo.1
  have aj:decide ((p.i:Int) < ((ts.map dP).length:Int))=true:=by
   have:=hgo.2;rw [cW] at this;exact zb8
  cases hw:iW f p s with
  | none=>rw [hw] at h;cases h
  | some r =>
   obtain ⟨p2,s2⟩:=r;rw [hw] at h;simp only at h;have my:=ZY hp hw;refine D ?_;refine bP [1,2,3,4,5] (WE p s hd p2 s2 n hp hn G hw) ?_;rintro _ _ ⟨rfl,dW,rfl⟩;refine zax ?_;exact ⟨(g,p2,s2),⟨_,_,Wk.aC ak,dW,n+1,rfl,rfl,by rw [my.1,cW],my.ok hp,ZW hw hn,by show n+1+g<=acN;omega,h⟩,by simp⟩
 ·rw [F hgo] at h
  obtain ⟨rfl,rfl⟩:p=q/\s=st:=by simpa using h
  clear h
  have hex:∀ b1 b2:Bool,(p.code==0)=b1->decide ((p.i:Int) < ((ts.map dP).length:Int))=b2->b1=true->b2=false:=fun b1 b2 I M h3=>by
   subst h3
   cases b2 with
   | false=>rfl
   | true=>exact absurd ⟨by simpa using I,by rw [cW];simpa using M⟩ hgo
  by_cases hc:p.code=0
  ·rw [ab hc];have hz:=hz hc
   have eg:(p.code==0)=true:=by simpa using hc
   have lC:(p.code != 0)=false:=by simpa using hc
   have aj:=hex _ _ eg rfl rfl;have oI:=hn.trees;have hlf:=hn.fns;have uD:=mb s.trees;have nB:=Go.Xp.bK s.trees;refine zbA ?_;refine GW.wk (by apply Wk.oW (t:=52) (i:=2) <;> rfl) ?_;simp only [oset,bp];refine D ?_;refine GW.wk (Wk.iN 62 5) ?_;rw [Wb s.fns s.trees]
   refine GW.range s.trees.length (fun k fr Γ=>∃ aN cN,fr=[U,U,U,U,.loc 0 0,.v (ii 0),.v (ii 0),U,.loc 6 0,U,U,U,U,U,U,U,U,U,U,U,U,U,U,U,U,U,U,U,U,U,U,U,U,U,U,U,U,U,U,U,U,U,U,U,U,U,U,U,U,U,U,U,.sl 1 (ke s.trees),.v (ii (s.trees.length:Int)),.v (ii (k:Nat)),U,U,U,U,U,U,U,U,U,U,U,U,U,U,U,U,U,U,U,U,U,U,U,U]/\Γ=[.box 33 [.v (.slice none 0 0),.v (.slice none 0 0),.v (.slice none 0 0),.v (.slice none 0 0)],cr p (hx s hd),.vec 131 1 (ke s.trees).length (ke s.trees),.vech 9 1 (s.globals.map mY) (.slice hd.aG s.globals.length hd.cG),.vech 56 2 (s.arrays.map th) (.slice hd.aA s.arrays.length hd.cA),.vech 58 3 (oV s.fns s.trees k) (.slice hd.aF s.fns.length hd.cF),
    .box 33 [.v (.slice hd.aG s.globals.length hd.cG),.v (.slice hd.aA s.arrays.length hd.cA),.v (.slice hd.aF s.fns.length hd.cF),.v (.slice aN (az (s.trees.take k)) cN)],.vech 62 5 ((bU 0 (s.trees.take k)).map uv) (.slice aN (az (s.trees.take k)) cN)]) ?_ G ?_ ?_ ?_
   ·exact ⟨_,_,Wk.aC ak,none,0,rfl,rfl⟩
   ·rintro k _ _ ⟨aN,cN,rfl,rfl⟩;exact dp
   ·rintro k _ _ aj ⟨aN,cN,rfl,rfl⟩;obtain ⟨t,ht⟩:∃ t,s.trees[k]?=some t:=⟨s.trees[k],by simp [aj]⟩;have hr:=Ao ht;have cX:=Go.Xp.km ht;have hle:=Go.Xp.kl s.trees (k+1)
    have jQ:s.trees.take (k+1)=s.trees.take k++[t]:=by rw [bS,ht];rfl
    obtain ⟨x,xy,KR⟩:=Tb (fns:=s.fns) (trees:=s.trees) (k:=k) k G;rw [F (Nat.lt_irrefl k)] at xy;have xv:k < (oV s.fns s.trees k).length:=(bq xy).1
    have hX:((bU 0 (s.trees.take k)).map uv).length=az (s.trees.take k):=by rw [bV,Go.Xp.jA]
    have iG:=OK (aJ t) t (aD _) (az (s.trees.take k)) _ aN cN hX G;rw [<-QB s.fns s.trees k,jQ,Go.Xp.nt,Go.Xp.jE];simp only [bU,az,bO,Nat.add_zero,cL,kK];generalize (bU 0 (s.trees.take k)).map uv=X at *;generalize az (s.trees.take k)=z at *;generalize oV s.fns s.trees k=R at *;refine zcy ?_;refine bP [7] iG ?_;rintro _ _ ⟨a5,c5,rfl,rfl⟩;refine zax ?_;exact ⟨rfl,rfl,_,_,Wk.aC ak,a5,c5,rfl,rfl⟩
   ·rintro _ _ ⟨aN,cN,rfl,rfl⟩;rw [bH]
    have hX:((bU 0 s.trees).map uv).length=az s.trees:=by rw [bV,Go.Xp.jA]
    by_cases h8:az s.trees > 800
    ·rw [ab h8]
     have h8':decide ((800:Int) < (az s.trees:Int))=true:=by simpa using by omega
     generalize az s.trees=z at *;refine D ?_;refine DQ ?_;exact zaV
    ·rw [F h8]
     have h8':decide ((800:Int) < (((bU 0 s.trees).map uv).length:Int))=false:=by rw [hX];simpa using by omega
     refine aY ?_;refine GW.wk (by apply Wk.sr (i:=6) (o:=0) (j:=3) <;> rfl) ?_;simp only [oset,bp];refine GW.wk (by apply Wk.sr (i:=6) (o:=1) (j:=4) <;> rfl) ?_;simp only [oset,bp];refine GW.wk (by apply Wk.sr (i:=6) (o:=2) (j:=5) <;> rfl) ?_;simp only [oset,bp];refine GW.wk (by apply Wk.sr (i:=6) (o:=3) (j:=7) <;> rfl) ?_;simp only [oset,bp];refine D ?_;refine nT ?_;exact zai
  ·rw [F hc]
   have eg:(p.code==0)=false:=by simpa using hc
   have lC:(p.code != 0)=true:=by simpa using hc
   refine zbA ?_;refine aL (aE 0 9 (.a 9 (.q 10 (.q 11 .nil)))) ?_;refine bo ?_;refine DQ ?_;exact zaV
end Go.Xg
namespace Go.Xg
open Go.RowKit Go.Xw Go.Proofs Tryz
open GV (U)
open Go.Xp (Tok Nd T)
open Go.Sp (small eS eI bT gm fE eD)
open Go.Im (nI lH dj iX ik lB lK sx l9 oL rY)
attribute [local irreducible] GW GL GO YG GC GA aW aZ
theorem AL (c:UInt8):GF prog 181 [E9 c] [] (.v (.bool (eS c))) []:=by
 unfold eS;refine c8 func181 ntmps181 ?_
 cases h:decide ((48:Int)<=(c.toNat:Int))
 all_goals
  exact ax
theorem Cx (c:UInt8):GF prog 143 [E9 c] [] (.v (.bool (small c))) []:=by
 unfold small;refine c8 func143 ntmps143 ?_
 cases h:decide ((97:Int)<=(c.toNat:Int))
 all_goals
  exact ax
theorem M3 (c:UInt8):GF prog 145 [E9 c] [] (.v (.bool (eI c))) []:=by
 unfold eI;have hs:=Cx c;have hd:=AL c;generalize small c=b1 at *;generalize eS c=b2 at *;refine ah func145 ntmps145 ?_;refine iq [] hs ?_
 cases b1 with
 | true =>
  exact ax
 | false =>
  cases I:decide ((65:Int)<=(c.toNat:Int)) with
  | true =>
   cases M:decide ((c.toNat:Int)<=90) with
   | true =>
    exact ax
   | false =>
    refine D ?_;refine iq [] hd ?_
    cases b2 with
    | true =>
     exact ax
    | false =>
     exact ax
  | false =>
   refine D ?_;refine iq [] hd ?_
   cases b2 with
   | true =>
    exact ax
   | false =>
    exact ax
theorem UR (test:FuncId) [hf:aK prog test] (p:UInt8->Bool) (ht:∀ c,GF prog test [E9 c] [] (.v (.bool (p c))) []) (s:ae) (a:Nat) (hs:s.length<=1099511627776) (ha:a<=s.length) :
  GF prog 144 [.v (sv s),.v (ii (a:Nat)),.v (.func (.func test) #[] #[])] [] (.v (ii (Go.Sp.run s p (s.length+1) a:Nat))) []:=by
 generalize hR:Go.Sp.run s p (s.length+1) a=R;refine ah func144 ntmps144 ?_;refine GW.loop (fun x:Nat × Nat=>x.1) (fun x fr Γ=>fr=[.v (sv s),.v (ii (x.2:Nat)),.v (.func (.func test) #[] #[]),U,U,U,U,U,U,U,U,U,U,U,U,U,U,U,U,U,U]/\Γ=[]/\x.2<=s.length/\s.length < x.1+x.2/\Go.Sp.run s p x.1 x.2=R) (s.length+1,a) ?_ ?_
 ·exact ⟨_,_,Wk.aC ak,rfl,rfl,ha,by simp only;omega,hR⟩
 ·rintro ⟨f,a⟩ _ _ ⟨rfl,rfl,ha,Dc,h⟩;simp only at ha Dc h
  cases f with
  | zero=>omega
  | succ f =>
  rw [Go.Sp.run] at h
  cases hc:s[a]? with
  | none =>
   rw [hc] at h;simp only at h;subst h;have ny:s.length<=a:=qo hc
   have hd:decide ((a:Int) < (s.length:Int))=false:=by simpa using ny
   exact zaF
  | some c =>
   rw [hc] at h;simp only at h;have aj:a < s.length:=(bq hc).1
   have hd:decide ((a:Int) < (s.length:Int))=true:=by simpa using aj
   have ov:=ht c
   cases hdc:p c with
   | false =>
    rw [hdc] at ov;rw [F (by rw [hdc];simp)] at h;subst h;refine D ?_;refine jX [] ov ?_;exact zaF
   | true =>
    rw [hdc] at ov;rw [ab hdc] at h;refine D ?_;refine jX [] ov ?_;refine D ?_;exact ⟨(f,a+1),⟨_,_,Wk.aC ak,rfl,rfl,aj,by simp only;omega,h⟩,by simp⟩
theorem QK:Go.Lib.asciiSpaceTab=xU:=by decide
theorem OG:Go.Lib.fields [105,110,116,32,118,97,114,32,102,117,110,99,32,105,102,32,101,108,115,101,32,119,104,105,108,101,32,114,101,116,117,114,110,32,124,124,32,38,38,32,61,61,32,33,61,32,60,61,32,62,61,32,60,60,32,62,62,32,40,32,41,32,123,32,125,32,91,32,93,32,44,32,59,32,61,32,60,32,62,32,43,32,45,32,42,32,47,32,37,32,38,32,124,32,94,32,33,32,126]=nI:=by decide +kernel
theorem om.CD {P:Program} {f:FuncId} {vs:List Value} {w:World} {R:Value->World->Prop} (h:Calls P f vs.toArray w fun e w'=>∃ v,e=.returned v/\R v w'):om P f vs w R:=h
theorem Rp:GF prog 223 [.v (sv [105,110,116,32,118,97,114,32,102,117,110,99,32,105,102,32,101,108,115,101,32,119,104,105,108,101,32,114,101,116,117,114,110,32,124,124,32,38,38,32,61,61,32,33,61,32,60,61,32,62,61,32,60,60,32,62,62,32,40,32,41,32,123,32,125,32,91,32,93,32,44,32,59,32,61,32,60,32,62,32,43,32,45,32,42,32,47,32,37,32,38,32,124,32,94,32,33,32,126])] [] (strs nI) []:=by
 have:=GF.abW (P:=prog) (f:=223) (vs:=[sv [105,110,116,32,118,97,114,32,102,117,110,99,32,105,102,32,101,108,115,101,32,119,104,105,108,101,32,114,101,116,117,114,110,32,124,124,32,38,38,32,61,61,32,33,61,32,60,61,32,62,61,32,60,60,32,62,62,32,40,32,41,32,123,32,125,32,91,32,93,32,44,32,59,32,61,32,60,32,62,32,43,32,45,32,42,32,47,32,37,32,38,32,124,32,94,32,33,32,126]]) (us:=nI.map sv) (E:=9) fun K β w ht hf=>?_
 ·rw [List.map_map] at this;exact this
 ·obtain ⟨E,z,ng⟩:=va.all ht hf ht.spc (zs:=xU.map fun z=>Value.int .u8 z) aP (fun m o x hx=>by
   rw [aS] at hx;unfold zn;rw [F aP,F aP,ab rfl]
   cases hs:xU[o]? with
   | none=>rw [hs] at hx;cases hx
   | some y=>rw [hs] at hx;cases hx;rfl)
  have Cm:Go.Lib.TabIs prog w "strings.asciiSpace" .u8 Go.Lib.asciiSpaceTab:=by
   unfold Go.Lib.TabIs World.var?;rw [show prog.globalNamed "strings.asciiSpace" = some 1 by kernel_rfl,QK];simp only [Option.bind_some,ng]
  have h:=strings_Fields_laid ⟨[105,110,116,32,118,97,114,32,102,117,110,99,32,105,102,32,101,108,115,101,32,119,104,105,108,101,32,114,101,116,117,114,110,32,124,124,32,38,38,32,61,61,32,33,61,32,60,61,32,62,61,32,60,60,32,62,62,32,40,32,41,32,123,32,125,32,91,32,93,32,44,32,59,32,61,32,60,32,62,32,43,32,45,32,42,32,47,32,37,32,38,32,124,32,94,32,33,32,126].toArray⟩ w aP (fun j b hb=>by
   have:∀ b∈([105,110,116,32,118,97,114,32,102,117,110,99,32,105,102,32,101,108,115,101,32,119,104,105,108,101,32,114,101,116,117,114,110,32,124,124,32,38,38,32,61,61,32,33,61,32,60,61,32,62,61,32,60,60,32,62,62,32,40,32,41,32,123,32,125,32,91,32,93,32,44,32,59,32,61,32,60,32,62,32,43,32,45,32,42,32,47,32,37,32,38,32,124,32,94,32,33,32,126]:List UInt8),b.toNat < 128:=by decide
   exact this b (br hb)) Cm
  refine om.CD (Calls.mono h ?_);rintro e w' ⟨I,M⟩;rw [show ((⟨[105,110,116,32,118,97,114,32,102,117,110,99,32,105,102,32,101,108,115,101,32,119,104,105,108,101,32,114,101,116,117,114,110,32,124,124,32,38,38,32,61,61,32,33,61,32,60,61,32,62,61,32,60,60,32,62,62,32,40,32,41,32,123,32,125,32,91,32,93,32,44,32,59,32,61,32,60,32,62,32,43,32,45,32,42,32,47,32,37,32,38,32,124,32,94,32,33,32,126].toArray⟩:ByteArray).data.toList)=[105,110,116,32,118,97,114,32,102,117,110,99,32,105,102,32,101,108,115,101,32,119,104,105,108,101,32,114,101,116,117,114,110,32,124,124,32,38,38,32,61,61,32,33,61,32,60,61,32,62,61,32,60,60,32,62,62,32,40,32,41,32,123,32,125,32,91,32,93,32,44,32,59,32,61,32,60,32,62,32,43,32,45,32,42,32,47,32,37,32,38,32,124,32,94,32,33,32,126] from rfl,OG] at I M;exact ⟨_,I,by rw [bV],M⟩
theorem Wh:GF prog 182 [] [] (strs nI) []:=by
 have h:=Rp;generalize nI=l at *;refine ah func182 ntmps182 ?_;exact zbb
theorem Cu (s:ae):GF prog 146 [.v (sv s)] [] (.v (.bool (lH s))) []:=by
 have h:=Wh;have hc:=kh nI s aP;unfold lH;generalize nI=l at *;refine ah func146 ntmps146 ?_;refine V [] h ?_;exact zbe
theorem Th (s:ae) (a:Nat) (c:UInt8) (hs:s.length<=1099511627776) (hc:s[a]?=some c):GF prog 204 [.v (sv s),.v (ii (a:Nat))] [] (.v (sv (ik s a))) []:=by
 have aj:a < s.length:=(bq hc).1;have gO:=Cx c;refine ah func204 ntmps204 ?_;refine GW.loop (fun x:Nat=>x) (fun x fr Γ=>fr=[.v (sv s),.v (ii (a:Nat)),U,U,U,.v (ii (x:Nat)),U,U,U,U,U,U,U,U,U,U,U,U,U,U,U,U,U,U,U,U,U,U,U,U,U,U,U,U,U,U,U,U]/\Γ=[]/\x<=2/\∀ j,x < j->j<=2->iX s a j=false) 2 ?_ ?_
 ·exact ⟨_,_,Wk.aC ak,rfl,rfl,aD _,fun j I M=>by omega⟩
 ·rintro x _ _ ⟨rfl,rfl,hx,cZ⟩
  have tJ:∀ k,x=k+1->iX s a x=false->∀ j,k < j->j<=2->iX s a j=false:=fun k hk ht j I M=>by
   by_cases hj:j=x
   ·rw [hj];exact ht
   ·exact cZ j G M
  have QY:∀ k,iX s a k=(decide (a+k<=s.length)&&!(small c)&&lH (dj s a (a+k))):=fun k=>by unfold iX;rw [hc]
  match x,hx,cZ,tJ with
  | 0,_,cZ,_ =>
   have e:ik s a=[]:=by unfold ik;rw [cZ 2 G G,cZ 1 G G];rfl
   rw [e];exact zaF
  | 1,_,cZ,tJ =>
   have hle:decide (((a+1:Nat):Int)<=(s.length:Int))=true:=by simpa using by omega
   have hb:a<=a+1/\a+1<=s.length:=by omega
   have ht:=QY 1;rw [show decide (a+1<=s.length)=true from decide_eq_true G] at ht
   cases hsc:small c with
   | true =>
    rw [hsc] at gO ht;refine D ?_;refine V [] gO ?_;exact zem
   | false =>
    rw [hsc] at gO ht;have eu:=Cu (dj s a (a+1))
    cases hg:lH (dj s a (a+1)) with
    | false =>
     rw [hg] at eu ht;refine zdW ?_;exact zem
    | true =>
     rw [hg] at eu ht
     have e:ik s a=dj s a (a+1):=by unfold ik;rw [cZ 2 G G,ht];rfl
     rw [e];refine zdW ?_;exact al
  | 2,_,cZ,tJ =>
   have ht:=QY 2
   by_cases gM:a+2<=s.length
   ·have hle:decide (((a+2:Nat):Int)<=(s.length:Int))=true:=by simpa using by omega
    have hb:a<=a+2/\a+2<=s.length:=by omega
    rw [show decide (a+2<=s.length)=true by simpa using gM] at ht
    cases hsc:small c with
    | true =>
     rw [hsc] at gO ht;refine D ?_;refine V [] gO ?_;exact zca
    | false =>
     rw [hsc] at gO ht;have eu:=Cu (dj s a (a+2))
     cases hg:lH (dj s a (a+2)) with
     | false =>
      rw [hg] at eu ht;refine zdW ?_;exact zca
     | true =>
      rw [hg] at eu ht
      have e:ik s a=dj s a (a+2):=by unfold ik;rw [ht];rfl
      rw [e];refine zdW ?_;exact al
   ·have hle:decide (((a+2:Nat):Int)<=(s.length:Int))=false:=by simpa using by omega
    rw [show decide (a+2<=s.length)=false by simpa using gM] at ht;refine D ?_;exact zca
  | n+3,hx,_,_=>omega
def M5 (n:Int) (e:Nat) (a:Nat):GV:=if n > 2147483647 then .tup [.agg (dP sx),.v (ii (a:Nat)),.v (ii 3)] else .tup [.agg (dP ⟨1,n,[],a⟩),.v (ii (e:Nat)),.v (ii 0)]
theorem QW (s:ae) (a:Nat) (c:UInt8) (hs:s.length<=1099511627776) (hc:s[a]?=some c) (hd:eS c=true) :
  GF prog 167 [.v (sv s),.v (ii (a:Nat))] [] (M5 (lK (dj s a (lB s a)) 0) (lB s a) a) []:=by
 have aj:a < s.length:=(bq hc).1;have ov:=AL c;rw [hd] at ov;have oJ:=UR 181 eS AL s a hs G;obtain ⟨e1,e2,e3⟩:=Go.Sp.rC s eS (s.length+1) a G G;have ba:=Go.Im.EI s eS (s.length+1) a G;unfold lB;generalize Go.Sp.run s eS (s.length+1) a=e at *;clear e1;generalize hR:lK (dj s a e) 0=R;refine ah func167 ntmps167 ?_;refine V [] ov ?_;refine V [] oJ ?_;refine GW.loop (fun x:Nat × Int=>e - x.1) (fun x fr Γ=>fr=[.v (sv s),.v (ii (a:Nat)),U,U,.loc 0 0,.v (ii 0),.v (ii 0),U,.v (ii (e:Nat)),.v (ii x.2),.v (ii (x.1:Nat)),U,U,U,U,U,U,U,U,U,U,U,U,U,U,U,U,U,U,U,U,U,U,U,U,U,U,U,U,U,U,U,U,U,U,U,U,U,U,U,U,U,U,U,U,U,U,U,U,U,U,U,U,U,U,U,U,U,U,U,U,U,U,U,U,U,U,U,U,U,U]/\Γ=[.box 183 (dP sx)]/\a<=x.1/\x.1<=e/\lK (dj s x.1 e) x.2=R/\0<=x.2/\x.2<=21474836480) (a,0) ?_ ?_
 ·exact ⟨_,_,Wk.aC ak,rfl,rfl,aD _,e2,hR,by simp,by simp⟩
 ·rintro ⟨i,n⟩ _ _ ⟨rfl,rfl,hi,hie,h,Fw,Dh⟩;simp only at hi hie h Fw Dh
  have fin:R=n->True:=fun _=>trivial
  by_cases oI:i < e
  ·have Pg:decide ((i:Int) < (e:Int))=true:=by simpa using oI
   by_cases hn:n<=2147483647
   ·have Dg:decide (n<=2147483647)=true:=by simpa using hn
    have sG:i < s.length:=by omega
    obtain ⟨d,dW⟩:∃ d,s[i]?=some d:=⟨s[i],by simp [sG]⟩
    have ij:eS d=true:=by
     have:d∈dj s a e:=by
      unfold dj;rw [List.mem_iff_getElem?];exact ⟨i - a,by rw [List.getElem?_drop,List.getElem?_take,show a+(i - a)=i by omega,ab oI];exact dW⟩
     exact ba d this
    have zW:(48:Int)<=(d.toNat:Int)/\(d.toNat:Int)<=57:=by
     simp only [eS,aH,decide_eq_true_eq] at ij;exact ij
    rw [Go.Im.re dW oI e3,lK,ab hn] at h;refine D ?_;exact ⟨(i+1,10 * n+((d.toNat:Int) - 48)),⟨_,_,Wk.aC ak,rfl,rfl,by simp only;omega,oI,h,by simp only;omega,by simp only;omega⟩,by simp only;omega⟩
   ·have Dg:decide (n<=2147483647)=false:=by simpa using hn
    have fY:R=n:=by
     rw [<-h]
     cases hw:dj s i e with
     | nil=>rw [lK]
     | cons d r=>rw [lK,F hn]
    rw [fY];clear h fY hR fin
    have b8:decide (2147483647 < n)=true:=by simpa using by omega
    unfold M5;rw [ab G];exact ze4
  ·have Pg:decide ((i:Int) < (e:Int))=false:=by simpa using by omega
   have fY:R=n:=by
    rw [<-h];have:dj s i e=[]:=gC (by rw [Go.Im.mN e3];omega);rw [this,lK]
   rw [fY];clear h fY hR fin;unfold M5
   by_cases hn:n > 2147483647
   ·have b8:decide (2147483647 < n)=true:=by simpa using hn
    rw [ab hn];exact ze4
   ·have b8:decide (2147483647 < n)=false:=by simpa using hn
    rw [F hn];exact ze4
theorem WD (s:ae) (a:Nat) (c:UInt8) (hs:s.length<=1099511627776) (hc:s[a]?=some c) :
  GF prog 167 [.v (sv s),.v (ii (a:Nat))] [] (.tup [.agg (dP (l9 s a c).1),.v (ii ((l9 s a c).2.1:Nat)),.v (ii (l9 s a c).2.2)]) []:=by
 have aj:a < s.length:=(bq hc).1;have ov:=AL c;have gO:=Cx c
 by_cases hd:eS c=true
 ·have h:=QW s a c hs hc hd;unfold M5 at h;unfold l9;rw [ab hd];split at h
  ·rename_i hn;rw [ab hn];exact h
  ·rename_i hn;rw [F hn];exact h
 ·have Pf:eS c=false:=by simpa using hd
  unfold l9;rw [F hd];rw [Pf] at ov
  by_cases hsc:small c=true
  ·rw [ab hsc];rw [hsc] at gO;have oJ:=UR 145 eI M3 s a hs G;obtain ⟨e1,e2,e3⟩:=Go.Sp.rC s eI (s.length+1) a G G;have hw:gm s a=(s.take (fE s a)).drop a:=rfl;have eu:=Cu (gm s a);unfold fE at hw |-;rw [hw] at eu |-;generalize Go.Sp.run s eI (s.length+1) a=e at *;have hb:a<=e/\e<=s.length:=⟨e2,e3⟩
   cases hg:lH ((s.take e).drop a) with
   | true =>
    exact zb6
   | false =>
    exact zb6
  ·have abI:small c=false:=by simpa using hsc
   rw [F hsc];rw [abI] at gO;have hsa:=Th s a c hs hc
   have hlen:(ik s a).length<=2:=by
    have:(ik s a=dj s a (a+2)\/ik s a=dj s a (a+1))\/ik s a=[]:=by
     unfold ik;split
     ·exact .inl (.inl rfl)
     ·split
      ·exact .inl (.inr rfl)
      ·exact zbx
    rcases this with (h | h) | h <;> rw [h]
    ·unfold dj;rw [jy,du];omega
    ·unfold dj;rw [jy,du];omega
    ·simp
   generalize ik s a=x at *
   by_cases hx:x=[]
   ·have zZ:(x==[])=true:=by simpa using hx
    rw [ab hx];exact zcP
   ·have zZ:(x==[])=false:=by simpa using hx
    rw [F hx];exact zcP
end Go.Xg
