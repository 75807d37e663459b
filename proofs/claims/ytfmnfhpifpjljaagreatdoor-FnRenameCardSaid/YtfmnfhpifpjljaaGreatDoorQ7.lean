/- Part 7 of proofs that are told in their last texts. -/
import Derived.Test.YtfmnfhpifpjljaaGreatDoorQ5
import Derived.Shelf.Small.Bits
import Derived.Shelf.Small.Strs
import Derived.Shelf.Strings.BuilderF
import Derived.Shelf.Strconv.Itoa3
import Derived.Shelf.Strings.Shaped
import Derived.Shelf.Sort.Plain
import Derived.Shelf.Strings.Prefix
import Derived.Shelf.Strings.SplitShaped
import Derived.Shelf.Unicode.ExclAny
import Derived.Shelf.Slices.SearchI
import Derived.Shelf.Slices.Cells
import Derived.Shelf.Slices.In.SortNone
open List (all_append ext_getElem getD_cons_succ getD_cons_zero getElem?_mapIdx getElem_mem length_cons length_nil map_nil sum_cons)
set_option linter.unusedVariables false
set_option linter.unusedSimpArgs false
set_option maxRecDepth 100000
namespace Go
theorem zbK{A:Prop}(s:A:=by refine I ?_;refine zac ?_;refine D [0] m ?_;refine GW.wk (Wk.pd (i:=1) (o:=5) rfl rfl rfl rfl c) ?_;refine GW.wk (Wk.freeze (i:=1) rfl rfl rfl (ek rfl)) ?_;exact ay):A:=s
theorem zdo{A:Prop}(s:A:=by refine zac ?_;refine D [0] m ?_;refine GW.wk (Wk.jx (t:=4) rfl rfl rfl k) ?_;exact ay):A:=s
theorem zep{A B:Prop}(h:B)(s:PLift B->A:=by intro hQ;refine I ?_;refine aV (aL 0 11 .nil) ?_;refine bn ?_;rw[q];refine GW.wk (Wk.freeze (i:=0) rfl rfl rfl (aY _)) ?_;exact hQ.1):A:=s ⟨h⟩
end Go
namespace Go.Xw
open Go.RowKit Go.WideShapes Go.ChangeShapes
section
variable{H:Type}{enc:TypeId × Value->H}{P:Program}
theorem Eh{f:Func}{s:ChangeSpec}{apart fresh handsOn again:Bool}{W W':World}{args:Array Value}{v:Value}{ds gs:List (DataW H)}{before pa pv:List MemPlace}
  (hW:DataW.Whole enc P f.params.toList s.vars apart W args.toList ds gs before)
  (Xn:∀(b:Nat)(sp:Nat->Bool)(hd:Bool),DataW.TrodAll enc P W' b sp hd f.resultTypes.toList (v.resultList f.resultTypes.size) (s.fn H (ds++gs)).results [])
  (Lg:∀sp:Nat->Bool,(∀p∈before,sp p.block=true)->DataW.TrodAll enc P W' 0 sp true f.params.toList args.toList (s.fn H (ds++gs)).args pa)
  (Tk:∀sp:Nat->Bool,(∀p∈before,sp p.block=true)->DataW.TrodVars enc P W' sp s.vars (s.fn H (ds++gs)).vars pv)
  (Jj:before=pa++pv)(hb:Below W.heap.size W W')
  (uC:∀(j:Nat)(t:TypeId)(r:Value),f.resultTypes[j]?=some t->(v.resultList f.resultTypes.size)[j]?=some r->Value.okWide P W' .any 0 t r) :
  s.post enc P f apart fresh handsOn again W args v W':=by
 have ps:∀p∈before,p.block<W.heap.size:=fun p hp=>hW.lt p hp
 have hold:∀p∈before,(fun b=>decide (b<W.heap.size)) p.block=true:=fun p hp=>by simpa using ps p hp
 refine⟨ds,gs,before,[],pa,pv,hW,Xn _ _ _,Lg _ hold,Tk _ hold,World.keptBut_mono (fun p hp=>⟨hp,?_⟩) (hb.frame (·∈before)),fun _=>?_⟩
 ·rw[Jj,List.mem_append]at hp;exact Or.inr hp
 ·have⟨_,_,_,_,_,hz,hn⟩:=hW;refine⟨uC,_,_,([]++pa)++pv,⟨[]++pa,pv,trodAll_append (Lg _ (fun _ _=>rfl)) (Xn _ _ _),Tk _ (fun _ _=>rfl),rfl,?_,?_⟩,?_⟩
  ·intro b off hp
   have Jf:MemPlace.cell b off∈before:=by rw[Jj];simpa using hp
   rw[hb.frozen (ps _ Jf)];exact hz b off Jf
  ·intro ha;have:=hn ha;rw[Jj]at this;exact zdk
  ·intro p hp _;rw[Jj];simpa using hp
end
end Go.Xw
namespace Go.Xg
open Go.RowKit Go.Xw
class uV (P:Program) (t:TypeId):Prop where
 und:∃e j,P.underlying t=some (.pointer e)/\P.info? e=some j
theorem uV.mk'{P:Program}{t e:TypeId}(h:P.underlying t=some (.pointer e))(k:(P.info? e).isSome=true):uV P t:=⟨e,(P.info? e).get k,h,by simp⟩
section
variable{P:Program}{m:Nat}{Q:dN}{fr:am}{Γ:ap}{ops:Array Oper}{rest:List Oper}{d:Option Tmp}{op:Op}{ty:TypeId}{pos:String}{af:Array Edge}
theorem YG.iM{x y:Operand}{t r:TypeId}[n:uV P t]{i o:Nat}(hx:bf fr x=.loc i o)(C:bf fr y=.v (.pointer none)):YG P (.binOp .eql t x y r) fr Γ (.v (.bool false)):=fun B K z w l s O=>by
 have h:=O.ev x;rw[hx]at h;generalize k:ev l x=v at h
 cases h with
 |loc _ _ b u =>
  have⟨e,j,q,c⟩:=n.und
  have W:P.pointee t=e:=by simp[Program.pointee,q]
  have:=run_eql_pointer_nil (P:=P) w t (some ⟨b,o,none⟩) zff;refine⟨_,fun d ty pos af=>?_,.v _⟩;simp[execOp,eqGuard,k,O.gq C,this]
theorem YG.iO{x y:Operand}{t A:TypeId}[s:uV P t]{i o:Nat}(hx:bf fr x=.loc i o)(C:bf fr y=.loc i o):YG P (.binOp .neq t x y A) fr Γ (.v (.bool false)):=fun B K H w l F O=>by
 have h:=O.ev x;rw[hx]at h;have k:=O.ev y;rw[C]at k;generalize z:ev l x=v at h;generalize n:ev l y=G at k
 cases h with
 |loc _ _ b u =>
  cases k with
  |loc _ _ E r =>
   rw[u]at r;cases r;have⟨e,j,q,c⟩:=s.und;have:=Lib.run_neq_ptr_same (P:=P) w ⟨b,o,none⟩ q c;refine⟨_,fun d ty pos af=>?_,.v _⟩;simp[execOp,eqGuard,z,n,this]
theorem Inv.again{B:Bs}{K:Fz}{β:Bt}{Γ:ap}{w w':World}{i E k:Nat}{rows:List am}{x:Value}{xs:List Value}(h:Inv B K β Γ w)(hi:Γ[i]?=some (.vech E k rows x))(A:iz w' 0 E k x rows.length xs)(v:bF K β xs rows.flatten)
  (hx:Ext (fun b=>x.ownBlock=some b) w w'):Inv B K β Γ w':=by
 have⟨T,r,c,G,C,s⟩:=h.ob i _ hi
 have q:∀b,x.ownBlock=some b->(β i).has b:=fun b l=>by rw[r];exact l
 refine⟨h.ext.step hx (fun j Y=>(h.own i j (q j Y)).symm),h.kle,h.ble,h.loc,h.fz.ext hx (fun b o g X e=>by grind),fun j y Y=>?_,h.out,h.dis,h.own,h.kn,h.tab.step hx (fun j Y=>⟨i,q j Y⟩) (dm.refl K) (fun i n h=>.inl ⟨i,h⟩)⟩
 by_cases u:j=i
 ·grind[hO]
 ·exact(h.ob j y Y).ext hx (fun b l e=>u (h.dis j i b l (q b e))) (dm.refl K) (dV.refl β) rfl (fun _ _ _ h=>h)
theorem GL.Zb{s x:Operand}{t u e:Nat}[hT:C6 P t e][hU:qG P u](i:Nat){n:Nat}{G:Tmp}{v:Value}{rows:List am}{str:ab}(hx:bf fr x=.v (sv str))(hs:bf fr s=.v v)(k:Γ[i]?=some (.vech e 1 rows v))(hn:rows.length=n)(E:str.isEmpty=false)
  (S:n+str.length<=140737488355328)
  (h:∀a c,GL P m ops Q rest (bX fr (some G) (.v (.slice a (n+str.length) c))) (oset Γ i (.vech e 1 (rows++dy str) (.slice a (n+str.length) c)))) :
  GL P m ops Q (⟨some G,.call ⟨.builtin .append,#[s,x],#[t,u]⟩,ty,pos,af,none⟩::rest) fr Γ:=fun B K β w l Z R H=>by
 subst hn
 have E:str≠[]:=by grind
 have⟨xs,o1,T,o3,o4,o5⟩:=R.ob i _ k;have O:ev l s=v:=H.gq hs
 have J:(dy str).flatten=str.map fun c=>GV.v (.int .u8 (c.toNat:Int)):=by
  unfold dy;clear hx E S h;generalize str=s
  induction s with
  |nil=>rfl
  |cons c r ih=>grind
 have C:(dy str).length=str.length:=by simp
 refine WL.BW (base:=0) (v:=v) (n:=rows.length) (xs:=xs) (str:=str) O T (H.gq hx) S (bp _) ?_;intro v' w' N A M Fs
 obtain⟨W,X,F,z⟩:=(R.yk k).grow (fz:=0) (nI k) o1 ⟨T,o3⟩ (news:=dy str) (ns:=lY str) zff A M (by rw[J];exact(by
   have:(str.map fun c=>GV.v (.int .u8 (c.toNat:Int)))=gZ (lY str):=by simp[gZ,lY]
   rw[this];exact bF.self)) (fun r hr=>by
   grind[GV.pc]) zff (fun b Y o v ho hv=>by omega)
 rw[<-bI,ma]at z;have⟨a,c,j,q⟩:=z.wH (nI k);rw[ma]at q;obtain⟨a',c',rfl⟩:=N.shape;rw[b7]at j;simp only[br,C]at j q F;cases j;exact h _ _ B W _ w' _ Z q ((H.mono X F).put (some G) (.v _))
theorem GL.Za{s x:Operand}{t u e:Nat}[Z:C6 P t e][R:qG P u](i:Nat){rows:List am}{v:Value}(hx:bf fr x=.v (sv []))(hs:bf fr s=.v v)(z:Γ[i]?=some (.vech e 1 rows v))(hb:rows.length<=140737488355328)
  (h:GL P m ops Q rest (bX fr d (.v v)) Γ):GL P m ops Q (⟨d,.call ⟨.builtin .append,#[s,x],#[t,u]⟩,ty,pos,af,none⟩::rest) fr Γ:=fun B K β w l hm O C=>by
 have⟨xs,o1,Y,o3,o4,o5⟩:=O.ob i _ z;have G:=C.gq hs;have M:=C.gq hx;have⟨W,X,T,hz,r,F⟩:=Z.is;have hs0:(⟨([]:ab).toArray⟩:ByteArray).size=0:=rfl;obtain⟨A,w',hr,N,k,h4⟩:=Lib.run_append_own_string (P:=P) w 0 t u ty e X W R.und T hz r F v rows.length xs Y ⟨([]:ab).toArray⟩ zfr V (bp _)
 have J:A=v:=by
  rcases Y.2 with⟨rfl,h6⟩|⟨g,c,cur,rfl,S4,hg,Ds,ND,n,H⟩
  ·grind
  ·have S:cur.size=c:=by omega
   have Ft:=Lib.run_append_room_string (P:=P) w t u ty e X W R.und T r g rows.length c cur hg ⟨([]:ab).toArray⟩ V V
   grind
 subst J;have q:(Builtin.append_ #[t,u] ty #[A,sv []]).run P w=.ok A w':=hr;have n:Lib.strCells ⟨([]:ab).toArray⟩=[]:=rfl;rw[n,eT]at N;have o:Ext (fun b=>A.ownBlock=some b) w w':=⟨k.os,k.tape,k.output,k.size,fun j hj hn=>k.block j hj fun he=>hn he.symm⟩;have E:=O.again z N o3 o;exact WL.val (v:=A) (w':=w') (by simp[execOp,resolve,invoke,builtin,G,M,q]) (h B K β w' _ hm E (C.put d (.v _)))
theorem YG.fO{x:Operand}{t:TypeId}(i:Nat){E n c:Nat}{a:Option Addr}{rows:List am}(hx:bf fr x=.v (.slice a n c))(o:Γ[i]?=some (.vech E 1 rows (.slice a n c)))(hn:rows.length=n)(W:Nat.blt 0 n=true) :
  YG P (.call ⟨.builtin .unsafeSliceData,#[x],#[t]⟩) fr Γ (.vp i n 1 0 0):=fun B K A w l j O=>by
 subst hn
 have W:0<rows.length:=by simp_all
 have⟨Y,q,b,G,C,r⟩:=j.ob i _ o;have k:=O.gq hx
 rcases b.2 with⟨S,u⟩|⟨g,e,cur,S,_,X,R,_⟩
 ·omega
 ·cases S
  have z:=fun s ty=>Lib.run_unsafeSliceData_row (P:=P) (w:=w) s ty ⟨g,0,none⟩ rows.length c V
  exact⟨.pointer (some ⟨g,0,none⟩),fun d ty pos af=>by simp[execOp,resolve,invoke,builtin,k,z],.vp i _ 1 0 0 _ ⟨_,_,q,aY _,fun _=>⟨g,rfl,by simp⟩⟩⟩
theorem GL.PG{x y:Operand}{pt it e:TypeId}(i:Nat){str:ab}{rows:List am}{v:Value}(hp:P.underlying pt=some (.pointer e))(hc:P.cellsOf e=1)(hx:bf fr x=.vp i str.length 1 0 0)(hy:bf fr y=.v (ii str.length))(vA:Γ[i]?=some (.vech e 1 rows v))(C:rows=dy str)
  (J:str.isEmpty=false)(hb:str.length<=140737488355328)
  (h:GL P m ops Q rest (bX fr d (.v (sv str))) (oset Γ i .lost)):GL P m ops Q (⟨d,.call ⟨.builtin .unsafeString,#[x,y],#[pt,it]⟩,ty,pos,af,none⟩::rest) fr Γ:=fun B K N w l hm n R=>by
 have J:str≠[]:=by grind
 subst C;have⟨xs,o1,o2,o3,o4,o5⟩:=n.ob i _ vA
 have H:(dy str).length=str.length:=by simp
 have W:=R.ev x;rw[hx]at W;have Z:=R.gq hy;generalize hv:ev l x=u at W
 cases W with
 |vp _ _ _ _ _ _ hh =>
  have⟨h0,mm,O,e2,e3⟩:=hh;rw[O]at o1;cases o1;obtain⟨b,F,rfl⟩:=e3 H
  rcases o2.2 with⟨h8,h9⟩|⟨g,cap,cur,h8,_,hg,Ds,ND,NF,Y⟩
  ·grind
  ·subst h8;simp only[Value.ownBlock,Option.some.injEq]at F;subst F
   have hxs:xs=lY str:=by
    have T:(dy str).flatten=gZ (lY str):=by
     have:(dy str).flatten=str.map fun c=>GV.v (.int .u8 (c.toNat:Int)):=by
      unfold dy;generalize str=s
      induction s with
      |nil=>rfl
      |cons c r ih=>grind
     rw[this];simp[gZ,lY]
    rw[T]at o3;apply ext_getElem
    ·grind[lY]
    ·intro j h1 h2;have:=o3.2 j xs[j] (.v (lY str)[j]) (by simp[h1]) (by simp[gZ,h2]);exact Rel.eW this
   have z:∀j y,str[j]?=some y->w.cell? ((⟨g,0,none⟩:Addr).add j)=some (.int .u8 y.toNat):=fun j y hy=>by
    grind[World.ownsRow.cells,lY]
   have X:(dy str).length<=cur.size:=by omega
   have M:=Lib.run_unsafeString_row (P:=P) w pt it ty e hp hc g cur.size (by simp[World.shape?,hg]) str J V V z
   have q:Ext (·=g) w (w.freeze ⟨g,0,none⟩ str.length):=by
    have:=Lib.below_freeze (Below.refl 0 w) (p:=⟨g,0,none⟩) (bp g) str.length
    exact⟨this.os,this.tape,this.output,this.size,fun k hk hn=>by
     grind[World.freeze]⟩
   have G:(N i).has g:=by rw[O];exact rfl
   have S:Inv B K N (oset Γ i .lost) (w.freeze ⟨g,0,none⟩ str.length):=by
    refine⟨n.ext.step q (fun j t=>by subst t;exact(n.own i _ G).symm),n.kle,n.ble,n.loc,n.fz.ext q (fun b o g' xO he=>by grind),fun j y t=>?_,fun j t=>n.out j zfl,n.dis,n.own,n.kn,n.tab.step q (fun j t=>⟨i,by grind⟩) (dm.refl K) (fun i b2 h=>.inl ⟨i,h⟩)⟩;rw[bI,eY]at t;split at t
    ·rename_i A;split at t
     ·cases t;subst A
      intro b E;rw[O]at E;cases E
      grind[World.freeze]
     grind
    ·rename_i A;exact(n.ob j y t).ext q (fun b hb he=>by subst he;exact A (n.dis i j _ G hb)) (dm.refl K) (dV.refl N) rfl (fun _ _ _ h=>h)
   exact WL.val (v:=sv str) (w':=w.freeze ⟨g,0,none⟩ str.length) (by simp[execOp,resolve,invoke,builtin,hv,Z,M,sv]) (h B K N _ _ hm S (R.put d (.v _)))
theorem Inv.Sw{B:Bs}{K:Fz}{β:Bt}{Γ:ap}{w:World}{x:Bk}{y:Ob}(h:Inv B K β Γ w)(hd:∀b,x.has b->(∀i,¬(β i).has b)/\B.w0.heap.size<=b/\(b≠3/\b≠1))
  (A:hO K (fU β Γ.length x) w Γ.length y)(C:dV β (fU β Γ.length x)):Inv B K (fU β Γ.length x) (Γ++[y]) w:=by
 refine⟨h.ext,h.kle,h.ble.trans C,h.loc,h.fz,fun i z k=>?_,fun i k=>?_,fun i j b k Y=>?_,fun i b k=>?_,h.kn,⟨h.tab.le,h.tab.pow,h.tab.spc,fun i b k=>?_⟩⟩
 ·by_cases E:i<Γ.length
  ·rw[j1 E]at k;exact(h.ob i z k).ext (S:=gS) (Ext.refl w) (fun _ _ h=>h) (dm.refl K) C (cR V) (fun _ _ _ h=>h)
  grind
 ·simp at k;rw[cR V];exact h.out i V
 ·by_cases o:i=Γ.length<;>by_cases c:j=Γ.length
  ·omega
  ·grind[b7,cR]
  ·grind[b7,cR]
  ·rw[cR o]at k;rw[cR c]at Y;exact h.dis i j b k Y
 ·rcases nA k with o|o
  ·grind
  ·exact h.own i b o
 ·rcases nA k with o|o
  ·grind
  ·exact h.tab.free i b o
theorem YG.TL{x lo:Operand}{t e:TypeId}{k:Nat}[n:lX P t e k]{rows:List am}{A:IntKind}{i:Nat}(hx:bf fr x=.sl k rows)(G:bf fr lo=.v (.int A i))(hi:Nat.blt i rows.length=true):YG P (.slice t x (some lo) none none) fr Γ (.sl k (rows.drop i)):=fun B K β w l s O=>by
 have hi:i<rows.length:=by simp_all
 have h:=O.ev x;rw[hx]at h;have z:=O.gq G;generalize q:ev l x=v at h
 cases h with
 |sl0 a c=>simp at hi
 |sl b o c _ _ h W =>
  refine⟨.slice (some ⟨b,o+i*k,none⟩) (rows.length-i) (c-i),fun d ty pos af=>?_,?_⟩
  ·have C:¬(c=i):=by omega
   have N:(i:Int)<=(rows.length:Int):=by omega
   simp[execOp,Instr.sliceAt,Instr.slice,Instr.sliceBounds,Instr.sliceBound,asIntOf,q,z,run_underlying n.und,iK n.siz,C,Nat.le_of_lt hi,qH]
  ·have:=Rel.sl (K:=K) (β:=β) b (o+i*k) (c-i) k (rows.drop i) (fun j r E=>?_) zff
   ·grind
   grind
theorem YG.gb{x lo:Operand}{t e:TypeId}{k:Nat}[o:lX P t e k]{rows:List am}{w:IntKind}{n:Int}(i:Nat)(hx:bf fr x=.sl k rows)(G:bf fr lo=.v (.int w n))(hn:n=(i:Int))(hi:Nat.blt i rows.length=true):YG P (.slice t x (some lo) none none) fr Γ (.sl k (rows.drop i)):=by
 subst hn;exact YG.TL hx G hi
end
end Go.Xg
namespace Go.Proofs
open Go.Shelf
theorem gL{R:Type}{a:Option R}{b c:R}(h:a=some b)(k:b=c:=by kernel_rfl):a=some c:=h.trans (congrArg some k)
def Tryz.zx:Go.Shelf.Ren:=⟨fun|165=>242|240=>307|241=>308|276=>351|277=>352|n=>n,fun|70=>244|3=>3|0=>0|4=>4|9=>9|20=>20|72=>246|37=>22|164=>313|5=>5|n=>n,fun|n=>n⟩
theorem Tryz.US:Go.Proofs.Lays.n165 Tryz.prog Tryz.zx:={
 mixed:=by kernel_rfl
 f165:=gL Tryz.func242
 f240:=gL Tryz.func307
 f241:=gL Tryz.func308
 f276:=gL Tryz.func351
 f277:=gL Tryz.func352
 t0:=Tryz.underlying0
 a0:=Tryz.isAgg0
 z0:=Tryz.sizeOf0
 v0:=Tryz.zeroValue0
 t3:=Tryz.underlying3
 a3:=Tryz.isAgg3
 z3:=Tryz.sizeOf3
 v3:=Tryz.zeroValue3
 t4:=Tryz.underlying4
 a4:=Tryz.isAgg4
 z4:=Tryz.sizeOf4
 v4:=Tryz.zeroValue4
 t9:=Tryz.underlying9
 a9:=Tryz.isAgg9
 z9:=Tryz.sizeOf9
 v9:=Tryz.zeroValue9
 t20:=Tryz.underlying20
 a20:=Tryz.isAgg20
 z20:=Tryz.sizeOf20
 v20:=Tryz.zeroValue20
 t37:=Tryz.underlying22
 a37:=Tryz.isAgg22
 z37:=Tryz.sizeOf22
 v37:=Tryz.zeroValue22
 t70:=Tryz.underlying244
 a70:=Tryz.isAgg244
 z70:=Tryz.sizeOf244
 v70:=Tryz.zeroValue244
 t72:=Tryz.underlying246
 a72:=Tryz.isAgg246
 z72:=Tryz.sizeOf246
 v72:=Tryz.zeroValue246
 t164:=Tryz.underlying313
 a164:=Tryz.isAgg313
 z164:=Tryz.sizeOf313
 v164:=Tryz.zeroValue313 }
theorem Tryz.zd:Builder.Extra Tryz.prog Tryz.zx:={
 sizeBuilder:=by kernel_rfl
 liesBuilder:=by kernel_rfl
 t5:=Tryz.underlying5
 a5:=Tryz.isAgg5
 z5:=Tryz.sizeOf5
 v5:=Tryz.zeroValue5
 infoByte:=by kernel_rfl
 cellsByte:=by kernel_rfl
 sizeByte:=by kernel_rfl
 neB5:=by decide }
open Go.RowKit in
theorem Tryz.Builder_Grow_fresh(B b n:Nat)(w:World)(N:B<=b)(q:w.heap[b]?=some (.cells #[.pointer none,.slice none 0 0] 246 (0,0)))(t:B<=w.heap.size)(hn:n<=281474976710656) :
  Calls Tryz.prog 242 #[.pointer (some ⟨b,0,none⟩),.int .i64 n] w fun e w'=>e=.returned (.tuple #[])/\(Lib.BuilderAt 246 5 B b (.pointer (some ⟨b,0,none⟩)) [] w'/\Below B w w'):=Any.Builder_Grow_fresh Tryz.US Tryz.zd B b n w N q t hn
def Tryz.HZ:Go.Shelf.Ren:=⟨fun|137=>195|217=>249|266=>310|n=>n,fun|9=>9|5=>5|3=>3|n=>n,fun|n=>n⟩
theorem Tryz.UQ:Go.Proofs.Lays.n137 Tryz.prog Tryz.HZ:={
 mixed:=by kernel_rfl
 f137:=gL Tryz.func195
 f217:=gL Tryz.func249
 f266:=gL Tryz.func310
 t3:=Tryz.underlying3
 a3:=Tryz.isAgg3
 z3:=Tryz.sizeOf3
 v3:=Tryz.zeroValue3
 t5:=Tryz.underlying5
 a5:=Tryz.isAgg5
 z5:=Tryz.sizeOf5
 v5:=Tryz.zeroValue5
 t9:=Tryz.underlying9
 a9:=Tryz.isAgg9
 z9:=Tryz.sizeOf9
 v9:=Tryz.zeroValue9 }
open Go.RowKit in
theorem Tryz.strings_IndexByte(s:ByteArray)(c:Int)(w:World) :
  Calls Tryz.prog 195 #[.string s,.int .u8 c] w fun e w'=>e=.returned (.int .i64 (Lib.indexByte s.data.toList c.toNat.toUInt8))/\w'=w:=Any.strings_IndexByte Tryz.UQ s c w
def Tryz.FQ:Go.Shelf.Ren:=⟨fun|171=>188|243=>241|246=>306|283=>347|284=>348|285=>349|286=>350|129=>275|317=>368|318=>369|319=>370|320=>371|337=>377|338=>378|n=>n,fun|3=>3|9=>9|2=>2|4=>4|171=>309|0=>0|53=>271|37=>22|5=>5|173=>311|212=>328|51=>269|20=>20|213=>329|46=>178|232=>345|233=>346|n=>n,fun|17=>3|18=>4|19=>5|n=>n⟩
theorem Tryz.Rb:Go.Proofs.LaysM.n171 Tryz.prog Tryz.FQ:={
 mixed:=by kernel_rfl
 f129:=gL Tryz.func275
 f171:=gL Tryz.func188
 f243:=gL Tryz.func241
 f246:=gL Tryz.func306
 f283:=gL Tryz.func347
 f284:=gL Tryz.func348
 f285:=gL Tryz.func349
 f286:=gL Tryz.func350
 f317:=gL Tryz.func368
 f318:=gL Tryz.func369
 f319:=gL Tryz.func370
 f320:=gL Tryz.func371
 f337:=gL Tryz.func377
 f338:=gL Tryz.func378
 t0:=Tryz.underlying0
 a0:=Tryz.isAgg0
 z0:=Tryz.sizeOf0
 v0:=Tryz.zeroValue0
 t2:=Tryz.underlying2
 a2:=Tryz.isAgg2
 z2:=Tryz.sizeOf2
 v2:=Tryz.zeroValue2
 t3:=Tryz.underlying3
 a3:=Tryz.isAgg3
 z3:=Tryz.sizeOf3
 v3:=Tryz.zeroValue3
 t4:=Tryz.underlying4
 a4:=Tryz.isAgg4
 z4:=Tryz.sizeOf4
 v4:=Tryz.zeroValue4
 t5:=Tryz.underlying5
 a5:=Tryz.isAgg5
 z5:=Tryz.sizeOf5
 v5:=Tryz.zeroValue5
 t9:=Tryz.underlying9
 a9:=Tryz.isAgg9
 z9:=Tryz.sizeOf9
 v9:=Tryz.zeroValue9
 t20:=Tryz.underlying20
 a20:=Tryz.isAgg20
 z20:=Tryz.sizeOf20
 v20:=Tryz.zeroValue20
 t37:=Tryz.underlying22
 a37:=Tryz.isAgg22
 z37:=Tryz.sizeOf22
 v37:=Tryz.zeroValue22
 t46:=Tryz.underlying178
 a46:=Tryz.isAgg178
 z46:=Tryz.sizeOf178
 v46:=Tryz.zeroValue178
 t51:=Tryz.underlying269
 a51:=Tryz.isAgg269
 z51:=Tryz.sizeOf269
 v51:=Tryz.zeroValue269
 t53:=Tryz.underlying271
 a53:=Tryz.isAgg271
 z53:=Tryz.sizeOf271
 v53:=Tryz.zeroValue271
 t171:=Tryz.underlying309
 a171:=Tryz.isAgg309
 z171:=Tryz.sizeOf309
 v171:=Tryz.zeroValue309
 t173:=Tryz.underlying311
 a173:=Tryz.isAgg311
 z173:=Tryz.sizeOf311
 v173:=Tryz.zeroValue311
 t212:=Tryz.underlying328
 a212:=Tryz.isAgg328
 z212:=Tryz.sizeOf328
 v212:=Tryz.zeroValue328
 t213:=Tryz.underlying329
 a213:=Tryz.isAgg329
 z213:=Tryz.sizeOf329
 t232:=Tryz.underlying345
 a232:=Tryz.isAgg345
 z232:=Tryz.sizeOf345
 v232:=Tryz.zeroValue345
 t233:=Tryz.underlying346
 a233:=Tryz.isAgg346
 z233:=Tryz.sizeOf346
 v233:=Tryz.zeroValue346
 g17:=by kernel_rfl
 g18:=by kernel_rfl
 g19:=by kernel_rfl
 i0:=by kernel_rfl
 i2:=by kernel_rfl
 i3:=by kernel_rfl
 i4:=by kernel_rfl
 i5:=by kernel_rfl
 i9:=by kernel_rfl
 i20:=by kernel_rfl
 i37:=by kernel_rfl
 i46:=by kernel_rfl
 i51:=by kernel_rfl
 i53:=by kernel_rfl
 i171:=by kernel_rfl
 i173:=by kernel_rfl
 i212:=by kernel_rfl
 i232:=by kernel_rfl
 i233:=by kernel_rfl
 m17:=by kernel_rfl
 m18:=by kernel_rfl
 m19:=by kernel_rfl }
open Go.RowKit Go.Sort Go.Lib in
theorem Tryz.strconv_Itoa(n:Int)(o : -9223372036854775808<=n)(q:n<=9223372036854775807)(w:World)(Q:Lib.TabIs Tryz.prog w "internal/strconv.uint64pow10" .u64 Lib.pow10Tab) :
  Calls Tryz.prog 188 #[.int .i64 n] w fun e w'=>e=.returned (.string ⟨(Lib.itoa n).toArray⟩)/\∃k Z,w'=grow (w.drewN k) Z:=Any.strconv_Itoa Tryz.Rb n o q w Q
def Tryz.H0:Go.Shelf.Ren:=⟨fun|143=>197|219=>251|217=>249|225=>311|224=>312|267=>313|266=>310|314=>353|n=>n,fun|9=>9|3=>3|4=>4|5=>5|46=>178|146=>316|51=>269|n=>n,fun|1=>0|n=>n⟩
theorem Tryz.UR:Go.Proofs.Lays.n143 Tryz.prog Tryz.H0:={
 mixed:=by kernel_rfl
 f143:=gL Tryz.func197
 f217:=gL Tryz.func249
 f219:=gL Tryz.func251
 f224:=gL Tryz.func312
 f225:=gL Tryz.func311
 f266:=gL Tryz.func310
 f267:=gL Tryz.func313
 f314:=gL Tryz.func353
 t3:=Tryz.underlying3
 a3:=Tryz.isAgg3
 z3:=Tryz.sizeOf3
 v3:=Tryz.zeroValue3
 t4:=Tryz.underlying4
 a4:=Tryz.isAgg4
 z4:=Tryz.sizeOf4
 v4:=Tryz.zeroValue4
 t5:=Tryz.underlying5
 a5:=Tryz.isAgg5
 z5:=Tryz.sizeOf5
 v5:=Tryz.zeroValue5
 t9:=Tryz.underlying9
 a9:=Tryz.isAgg9
 z9:=Tryz.sizeOf9
 v9:=Tryz.zeroValue9
 t46:=Tryz.underlying178
 a46:=Tryz.isAgg178
 z46:=Tryz.sizeOf178
 v46:=Tryz.zeroValue178
 t51:=Tryz.underlying269
 a51:=Tryz.isAgg269
 z51:=Tryz.sizeOf269
 v51:=Tryz.zeroValue269
 t146:=Tryz.underlying316
 a146:=Tryz.isAgg316
 z146:=Tryz.sizeOf316
 v146:=Tryz.zeroValue316
 g1:=by kernel_rfl }
open Go.RowKit Go.Lib in
theorem Tryz.strings_Index(s sub:ByteArray)(m:Int)(w:World)(G:s.size<4294967281)(j:w.cell? ⟨0,0,none⟩=some (.int .i64 m)) :
  Calls Tryz.prog 197 #[.string s,.string sub] w fun e w'=>e=.returned (.int .i64 (Lib.index s.data.toList sub.data.toList))/\w'=w:=Any.strings_Index Tryz.UR s sub m w G j
def Tryz.FP:Go.Shelf.Ren:=⟨fun|157=>305|229=>345|199=>346|261=>367|311=>375|312=>376|n=>n,fun|9=>9|31=>23|3=>3|5=>5|4=>4|119=>306|0=>0|40=>308|152=>323|21=>21|154=>325|51=>269|141=>327|196=>334|193=>331|198=>337|49=>335|194=>332|201=>340|226=>343|46=>178|227=>344|n=>n,fun|0=>1|6=>2|n=>n⟩
theorem Tryz.Ra:Go.Proofs.LaysM.n157 Tryz.prog Tryz.FP:={
 mixed:=by kernel_rfl
 f157:=gL Tryz.func305
 f199:=gL Tryz.func346
 f229:=gL Tryz.func345
 f261:=gL Tryz.func367
 f311:=gL Tryz.func375
 f312:=gL Tryz.func376
 t0:=Tryz.underlying0
 a0:=Tryz.isAgg0
 z0:=Tryz.sizeOf0
 v0:=Tryz.zeroValue0
 t3:=Tryz.underlying3
 a3:=Tryz.isAgg3
 z3:=Tryz.sizeOf3
 v3:=Tryz.zeroValue3
 t4:=Tryz.underlying4
 a4:=Tryz.isAgg4
 z4:=Tryz.sizeOf4
 v4:=Tryz.zeroValue4
 t5:=Tryz.underlying5
 a5:=Tryz.isAgg5
 z5:=Tryz.sizeOf5
 v5:=Tryz.zeroValue5
 t9:=Tryz.underlying9
 a9:=Tryz.isAgg9
 z9:=Tryz.sizeOf9
 v9:=Tryz.zeroValue9
 t21:=Tryz.underlying21
 a21:=Tryz.isAgg21
 z21:=Tryz.sizeOf21
 v21:=Tryz.zeroValue21
 t31:=Tryz.underlying23
 a31:=Tryz.isAgg23
 z31:=Tryz.sizeOf23
 v31:=Tryz.zeroValue23
 t40:=Tryz.underlying308
 a40:=Tryz.isAgg308
 z40:=Tryz.sizeOf308
 v40:=Tryz.zeroValue308
 t46:=Tryz.underlying178
 a46:=Tryz.isAgg178
 z46:=Tryz.sizeOf178
 v46:=Tryz.zeroValue178
 t49:=Tryz.underlying335
 a49:=Tryz.isAgg335
 z49:=Tryz.sizeOf335
 v49:=Tryz.zeroValue335
 t51:=Tryz.underlying269
 a51:=Tryz.isAgg269
 z51:=Tryz.sizeOf269
 v51:=Tryz.zeroValue269
 t119:=Tryz.underlying306
 a119:=Tryz.isAgg306
 z119:=Tryz.sizeOf306
 t141:=Tryz.underlying327
 a141:=Tryz.isAgg327
 z141:=Tryz.sizeOf327
 v141:=Tryz.zeroValue327
 t152:=Tryz.underlying323
 a152:=Tryz.isAgg323
 z152:=Tryz.sizeOf323
 v152:=Tryz.zeroValue323
 t154:=Tryz.underlying325
 a154:=Tryz.isAgg325
 z154:=Tryz.sizeOf325
 v154:=Tryz.zeroValue325
 t193:=Tryz.underlying331
 a193:=Tryz.isAgg331
 z193:=Tryz.sizeOf331
 v193:=Tryz.zeroValue331
 t194:=Tryz.underlying332
 a194:=Tryz.isAgg332
 z194:=Tryz.sizeOf332
 v194:=Tryz.zeroValue332
 t196:=Tryz.underlying334
 a196:=Tryz.isAgg334
 z196:=Tryz.sizeOf334
 v196:=Tryz.zeroValue334
 t198:=Tryz.underlying337
 a198:=Tryz.isAgg337
 z198:=Tryz.sizeOf337
 v198:=Tryz.zeroValue337
 t201:=Tryz.underlying340
 a201:=Tryz.isAgg340
 z201:=Tryz.sizeOf340
 v201:=Tryz.zeroValue340
 t226:=Tryz.underlying343
 a226:=Tryz.isAgg343
 z226:=Tryz.sizeOf343
 v226:=Tryz.zeroValue343
 t227:=Tryz.underlying344
 a227:=Tryz.isAgg344
 z227:=Tryz.sizeOf344
 v227:=Tryz.zeroValue344
 g0:=by kernel_rfl
 g6:=by kernel_rfl
 i0:=by kernel_rfl
 i3:=by kernel_rfl
 i4:=by kernel_rfl
 i5:=by kernel_rfl
 i9:=by kernel_rfl
 i21:=by kernel_rfl
 i31:=by kernel_rfl
 i40:=by kernel_rfl
 i46:=by kernel_rfl
 i49:=by kernel_rfl
 i51:=by kernel_rfl
 i141:=by kernel_rfl
 i152:=by kernel_rfl
 i154:=by kernel_rfl
 i193:=by kernel_rfl
 i194:=by kernel_rfl
 i196:=by kernel_rfl
 i198:=by kernel_rfl
 i201:=by kernel_rfl
 i226:=by kernel_rfl
 i227:=by kernel_rfl
 m0:=by kernel_rfl
 m6:=by kernel_rfl }
open Go.RowKit Go.Lib in
theorem Tryz.strings_Fields_laid(s:ByteArray)(w:World)(G:s.size<4294967281)(Q:∀(j:Nat)b,s.data.toList[j]?=some b->b.toNat<128)(R:Lib.TabIs Tryz.prog w "strings.asciiSpace" .u8 Lib.asciiSpaceTab) :
  Calls Tryz.prog 305 #[.string s] w fun e w' =>
   e=.returned (.slice (some ⟨w.heap.size,0,none⟩) (Lib.fields s.data.toList).length (Lib.fields s.data.toList).length)/\w'=w.alloc (.cells ((Lib.fields s.data.toList).map fun l=>Value.string ⟨l.toArray⟩).toArray 9):=Any.strings_Fields_laid Tryz.Ra s w G Q R
end Go.Proofs
set_option maxHeartbeats 1000000
namespace Go.Xg
open Go.RowKit Go.Xw Go.Proofs Tryz
attribute [local irreducible] GW GL GO YG GC GA bo bq
instance:C6 prog 22 5:=C6.mk' (aO)
instance:uV prog 244:=uV.mk' (e:=246) (aO) (aO)
theorem HJ(g:Value):GF prog 307 [.loc 0 0] [.box 246 [.loc 0 0,.v g]] (.tup []) [.box 246 [.loc 0 0,.v g]]:=by
 refine au func307 ntmps307 ?_;exact oL
theorem sI(s:ab)(n:Nat)(a:Option Addr)(c:Nat)(rows:List am)(hn:rows.length=n)(i:n+s.length<=140737488355328) :
  GC prog 243 [.loc 0 0,.v (sv s)] [.box 246 [.loc 0 0,.v (.slice a n c)],.vech 5 1 rows (.slice a n c)] (fun g bM=>(∃x,g=.tup [.v (ii s.length),x])/\∃a c,bM=[.box 246 [.loc 0 0,.v (.slice a (n+s.length) c)],.vech 5 1 (rows++dy s) (.slice a (n+s.length) c)]):=by
 subst hn;have h:=HJ (.slice a rows.length c)
 cases s with
 |nil =>
  refine au func243 ntmps243 ?_;refine D [0] h ?_;refine GL.Za 1 rfl rfl rfl (by simpa using i) ?_;refine zb0 ?_;refine lW ?_;exact⟨⟨_,rfl⟩,a,c,by simp[dy]⟩
 |cons x r =>
  generalize G:x::r=s at *
  have k:s.isEmpty=false:=by rw[<-G];rfl
  clear G;refine au func243 ntmps243 ?_;refine D [0] h ?_;refine GL.Zb 1 rfl rfl rfl aQ aX V ?_;intro F M;refine zb0 ?_;refine lW ?_;exact⟨⟨_,rfl⟩,F,M,rfl⟩
theorem Qj(str:ab)(a:Option Addr)(c:Nat)(o:str≠[])(i:str.length<=140737488355328) :
  GF prog 244 [.loc 0 0] [.box 246 [.loc 0 0,.v (.slice a str.length c)],.vech 5 1 (dy str) (.slice a str.length c)] (.v (sv str)) [.box 246 [.loc 0 0,.v (.slice a str.length c)],.lost]:=by
 have d:(dy str).length=str.length:=by simp[dy]
 have W:Nat.blt 0 str.length=true:=by simpa using List.length_pos_iff.2 o
 have k:str.isEmpty=false:=by cases str with|nil=>exact absurd rfl o|cons _ _=>rfl
 refine au func244 ntmps244 ?_;refine aV (aL 0 10 (.a 10 (.q 11 .nil))) ?_;refine ax ?_;refine L2 ?_;exact zbv
end Go.Xg
namespace Go.Xg
open Go.RowKit Go.Xw Go.Proofs Tryz
open GV (U)
open Go.Xp (cE)
theorem pF.DF{P:Program}{f:FuncId}{vs:List Value}{w:World}{R:Value->World->Prop}(h:Calls P f vs.toArray w fun e w'=>∃v,e=.returned v/\R v w'):pF P f vs w R:=h
theorem GW.builder{Q:dN}{fr:am}{r1 r2:Nat}{rest:Code}{j d H z:Tmp}{T1 T2 T3 T4 T5:TypeId}{p1 p2 p3:String}{a1 a2 a3:Array Edge}(n:Nat)
  (h8:il fr j=true)(Y:il fr d=true)(NN:Nat.beq j d=false)(abW:Nat.beq z j=false)(hn:bD fr z=.v (ii (n:Nat)))(hb:n<=281474976710656)
  (h:∀a c,GW prog 0 rest Q (bJ (bJ (bJ fr j (.loc 0 0)) d (.v (ii (n:Nat)))) H (.v (.tuple #[]))) [.box 246 [.loc 0 0,.v (.slice a 0 c)],.vech 5 1 [] (.slice a 0 c)]) :
  GW prog 0 (.seq (.region r1 [(⟨some j,.alloc 246,T1,p1,a1,none⟩:Oper)].toArray false) (.seq (.region r2 [(⟨some d,.move (.tmp z),T2,p2,a2,none⟩:Oper),⟨some H,.call ⟨.value (.func 242),[Operand.tmp j,.tmp d].toArray,#[T3,T4]⟩,T5,p3,a3,none⟩].toArray false) rest)) Q fr []:=fun B K M w l hm A N=>by
 have abV:j≠d:=by intro e;simp_all
 have u:z≠j:=by intro e;simp_all
 have i8:=nP N h8;have i56:=nP N Y;refine W.seq (W.region (WL.alloc (t:=246) fun b w1 q=>WL.nil ?_));refine W.seq (W.region (WL.v R.mv (WL.call (f:=242) (B1:=[.pointer (some ⟨b,0,none⟩),.int .i64 n]) ?_ (R:=fun x J=>x=.tuple #[]/\(Lib.BuilderAt 246 5 b b (.pointer (some ⟨b,0,none⟩)) [] J/\Below b w1 J)) ?_ fun x J hx=>WL.nil ?_)))
 ·have Z:FR K (fU M 0 (.fix b)) (bJ fr j (.loc 0 0)) (put l (some j) (.pointer (some ⟨b,0,none⟩))) :=
   (N.mono (dm.refl K) (iV (i:=0) (x:=.fix b) (by rw[A.out 0 (aY _)];trivial))).fc j (.loc 0 0 b b7)
  have j56:il (fc l j (.pointer (some ⟨b,0,none⟩))) d=true:=nP Z (t:=d) (by grind[Jp])
  have e5:nth (fc l j (.pointer (some ⟨b,0,none⟩))) z=.int .i64 n:=by
   rw[o7 u];exact Rel.eW (by rw[<-hn];exact N.nth z)
  show[nth (fc (fc l j (.pointer (some ⟨b,0,none⟩))) d (nth (fc l j (.pointer (some ⟨b,0,none⟩))) z)) j,nth (fc (fc l j (.pointer (some ⟨b,0,none⟩))) d (nth (fc l j (.pointer (some ⟨b,0,none⟩))) z)) d]=_
  grind[o7,vL]
 ·refine pF.DF (Calls.mono (Tryz.Builder_Grow_fresh b b n w1 (aY _) q.blk (by have:=q.size;omega) hb) ?_)
  grind
 ·obtain⟨rfl,⟨_,v,F,s,hnb⟩,m⟩:=hx;have s:iz J b 5 1 v 0 []:=s;obtain⟨a,c,rfl⟩:=s.shape;have Jd:=q.fresh;have S:Ext gS w J:=⟨m.os.trans q.ext.os,m.tape.trans q.ext.tape,m.output.trans q.ext.output,jk q.ext.size m.size,fun k T hs=>(m.block k V).trans (q.ext.block k T hs)⟩;have hI2:=A.same S
  have Fq:∀i,M i=.no:=fun i=>A.out i (bp _)
  have hKb:∀o,K b o=none:=fun o=>by
   cases T:K b o with
   |none=>rfl
   |some g=>have:=A.fz.lt T;omega
  have hw0:=A.ext.size;have abR:=A.tab.pow.lt;have QR:=A.tab.spc.lt;have C:dV M (fU M ([]:ap).length (.fix b)):=iV zfu
  have hI3:=hI2.Sw (x:=.fix b) (y:=.box 246 [.loc 0 0,.v (.slice a 0 c)]) (fun b' Nz=>by
   grind[Bk.has]) (by
   refine⟨b,[.pointer (some ⟨b,0,none⟩),.slice a 0 c],b7,F,.cons (.loc 0 0 b b7) (.cons (.v _) .nil),hKb⟩) C
  have G:iz J 0 5 1 (.slice a 0 c) 0 []:=s.base (bp _)
  have S3:∀g,(Value.slice a 0 c).ownBlock=some g->b<g:=fun g X=>by
   have O:=(s.lt X).1
   grind
  have Jb:fU M ([]:ap).length (.fix b) 1=.no:=by grind[fU]
  have E:dV (fU M ([]:ap).length (.fix b)) (fU (fU M ([]:ap).length (.fix b)) 1 (.gr (.slice a 0 c) 0)):=iV zfu
  have hI4:=hI3.Sw (x:=.gr (.slice a 0 c) 0) (y:=.vech 5 1 [] (.slice a 0 c)) (fun g X=>by
   have:=S3 g X;refine⟨fun i hi=>?_,by omega,by omega,by omega⟩
   rcases nA hi with O|O
   ·cases O;omega
   ·rw[Fq]at O;cases O) (by
   refine⟨[],b7,G,bF.nil,(fun r hr=>by cases hr),fun g X o=>?_⟩
   cases T:K g o with
   |none=>rfl
   |some y=>have:=A.fz.lt T;grind) E
  refine h a c B K _ J _ hm hI4 ?_;have hF2:=(N.mono (dm.refl K) C).mono (dm.refl K) E;refine((hF2.fc j (.loc 0 0 b ?_)).fc d ?_).fc H (.v _)
  ·rfl
  ·have e5:nth (fc l j (.pointer (some ⟨b,0,none⟩))) z=.int .i64 n:=by
    rw[o7 u];exact Rel.eW (by rw[<-hn];exact N.nth z)
   rw[show ev (put l (some j) (.pointer (some ⟨b,0,none⟩))) (.tmp z)=.int .i64 n from e5];exact .v _
attribute [local irreducible] GW GL GO YG GC GA bo bq
theorem Mz(a b:ab):dy (a++b)=dy a++dy b:=by simp
def n1(l:List ab):Nat:=(l.map List.length).sum
theorem Dt:∀(r:List ab)(x:ab),(cE (x::r)).length=n1 (x::r)+2*r.length
 |[],x=>by simp[cE,n1]
 |y::r,x=>by
  have:=Dt r y;simp only[cE,n1,br,List.map_cons,sum_cons,List.flatMap_cons,length_cons]at this |-;omega
def gj(l:List ab):ab:=l.flatMap fun y=>44::32::y
theorem Nu(a b:List ab):gj (a++b)=gj a++gj b:=by simp[ab,gj]
theorem UF(l:List ab)(k:Nat):(gj (l.take k)).length<=(gj l).length:=by
 grind[Nu,List.take_append_drop,br]
theorem WT(y:ab):gj [y]=[44,32]++y:=by simp[gj]
theorem QY(x:ab)(r:List ab):cE (x::r)=x++gj r:=rfl
theorem Me(l:List ab)(t:(cE l).length<=1099511627776)(E:l.length<=1099511627776):GF prog 189 [strs l,.v (sv [44,32])] [] (.v (sv (cE l))) []:=by
 match l,t,E with
 |[],t,E =>
  refine au func189 ntmps189 ?_;exact ay
 |[x],t,E =>
  have hr:([x].map fun s=>[GV.v (sv s)])[0]?=some [.v (sv x)]:=rfl
  have e:cE [x]=x:=by simp[cE]
  rw[e];refine au func189 ntmps189 ?_;exact ay
 |x::y::r,t,E =>
  have hr0:((x::y::r).map fun s=>[GV.v (sv s)])[0]?=some [.v (sv x)]:=rfl;have A:=Dt (y::r) x
  have hxl:x.length<=1099511627776:=by grind[cE,br]
  generalize O:(x::y::r)=l at *
  have J:2<=l.length:=by grind
  have n:(l.map fun s=>[GV.v (sv s)]).length=l.length:=by simp
  have Z:Nat.blt 1 (l.map fun s=>[GV.v (sv s)]).length=true:=by rw[n];simpa[Nat.blt]using J
  have Xh:(((l.map fun s=>[GV.v (sv s)]).length:Int)==0)=false:=by grind
  have hn1:(((l.map fun s=>[GV.v (sv s)]).length:Int)==1)=false:=by grind
  have hq:decide ((9223372036854775807:Int) / (((l.map fun s=>[GV.v (sv s)]).length:Int)-1)<=2)=false:=by
   rw[n]
   have h3:(3:Int)<=9223372036854775807 / ((l.length:Int)-1):=by
    rw[Int.le_ediv_iff_mul_le V];omega
   grind
  refine au func189 ntmps189 ?_;apply GL.q
  ·exact YG.mul (a:=2) (b:=((l.map fun s=>[GV.v (sv s)]).length:Int)-1) rfl rfl V
  refine zad ?_;refine GW.range (l.map fun s=>[GV.v (sv s)]).length (fun k F N=>F=[strs l,.v (sv [44,32]),U,U,U,.v (ii (0+2*(((l.map fun s=>[GV.v (sv s)]).length:Int)-1)+((n1 (l.take k):Nat):Int))),U,U,U,U,U,U,U,U,U,U,U,U,U,U,U,U,U,U,U,U,U,U,U,U,U,U,U,U,U,U,U,U,U,strs l,.v (ii ((l.map fun s=>[GV.v (sv s)]).length:Int)),.v (ii (k:Nat)),U,U,U,U,U,U,U,U,U,U,U,U,U,U,U,U,U,U,U,U,U,U,U,U,U,U,U,U,U,U,U,U,U]/\N=[]) ?_ V ?_ ?_ ?_
  ·refine⟨_,_,Wk.aZ (dh:=[strs l,.v (sv [44,32]),U,U,U,.v (ii (0+2*(((l.map fun s=>[GV.v (sv s)]).length:Int)-1))),U,U,U,U,U,U,U,U,U,U,U,U,U,U,U,U,U,U,U,U,U,U,U,U,U,U,U,U,U,U,U,U,U,strs l,.v (ii ((l.map fun s=>[GV.v (sv s)]).length:Int)),.v (ii (0:Nat)),U,U,U,U,U,U,U,U,U,U,U,U,U,U,U,U,U,U,U,U,U,U,U,U,U,U,U,U,U,U,U,U,U]) az,?_,rfl⟩;rw[List.take_zero,show((n1 []:Nat):Int)=0 from rfl,Int.add_zero]
  ·rintro k _ _⟨rfl,rfl⟩;exact dO
  ·rintro k _ _ j⟨rfl,rfl⟩;rw[n]at j
   have w:l[k]?=some l[k]:=by simp[j]
   have H:(l.map fun s=>[GV.v (sv s)])[k]?=some [.v (sv l[k])]:=by grind
   have hs:n1 (l.take (k+1))=n1 (l.take k)+l[k].length:=by unfold n1;rw[dd,w,gJ,List.sum_append];rfl
   have hle:n1 (l.take (k+1))<=n1 l:=by
    have:n1 l=n1 (l.take (k+1))+n1 (l.drop (k+1)):=by
     unfold n1;grind[gJ,List.take_append_drop]
    omega
   generalize l[k]=z at *;rw[show(0+2*(((l.map fun s=>[GV.v (sv s)]).length:Int)-1)+((n1 (l.take (k+1)):Nat):Int))=0+2*(((l.map fun s=>[GV.v (sv s)]).length:Int)-1)+((n1 (l.take k):Nat):Int)+(z.length:Int) by omega]
   have hov:decide (9223372036854775807-(0+2*(((l.map fun s=>[GV.v (sv s)]).length:Int)-1)+((n1 (l.take k):Nat):Int))<(z.length:Int))=false:=by
    grind
   exact ze4
  ·rintro _ _⟨rfl,rfl⟩;rw[n,dD]
   have Y:(0+2*((l.length:Int)-1)+((n1 l:Nat):Int))=(((cE l).length:Nat):Int):=by
    grind
   rw[Y];refine bh ?_
   refine GW.builder (cE l).length rfl rfl rfl rfl rfl V fun a c=>?_
   refine I ?_;refine b6 [0,1] (sI x 0 a c [] rfl V) ?_;rintro _ _⟨⟨u1,rfl⟩,a1,S,rfl⟩;refine zas ?_
   have C:∀k,(x++gj ((y::r).take k)).length<=1099511627776:=fun k=>by
    grind[UF,QY,br]
   refine GW.range ((y::r).map fun s=>[GV.v (sv s)]).length (fun k F N=>∃d a c,F=[U,.v (sv [44,32]),U,U,U,U,U,U,.loc 0 0,U,U,U,U,U,U,U,U,U,U,U,U,U,U,U,U,U,U,U,U,U,U,U,U,U,U,U,U,U,U,U,U,U,U,U,U,U,U,U,U,U,U,U,U,U,U,U,U,U,U,U,U,U,U,strs (y::r),.v (ii (((y::r).map fun s=>[GV.v (sv s)]).length:Int)),.v (ii (k:Nat)),U,U,U,U,U,U,U,U,U]/\d=x++gj ((y::r).take k)/\N=[.box 246 [.loc 0 0,.v (.slice a d.length c)],.vech 5 1 (dy d) (.slice a d.length c)]) ?_ ?_ ?_ ?_ ?_
   ·rw[show 0+x.length=x.length from dJ _];subst O;exact⟨_,_,Wk.aZ az,x,a1,S,rfl,by simp[gj],rfl⟩
   ·grind
   ·rintro k _ _⟨d,a,c,rfl,_,rfl⟩;exact dO
   ·rintro k _ _ j⟨d,a,c,rfl,i,rfl⟩
    have j:k<(y::r).length:=by grind
    have w:(y::r)[k]?=some (y::r)[k]:=by simp[j]
    have H:((y::r).map fun s=>[GV.v (sv s)])[k]?=some [.v (sv (y::r)[k])]:=by grind
    have m:x++gj ((y::r).take (k+1))=(d++[44,32])++(y::r)[k]:=by
     grind[dd,Nu,dP,WT]
    have G:=C k;have u:=C (k+1);rw[m]at u;rw[<-i]at G;simp only[br,length_cons,length_nil]at u;generalize(y::r)[k]=z at *
    have o:(dy d).length=d.length:=by simp
    refine I ?_;refine b6 [0,1] (sI [44,32] d.length a c (dy d) o zff) ?_;rintro _ _⟨⟨u1,rfl⟩,Q,T,rfl⟩;refine ch ?_;rw[show dy d++[[GV.v (.int .u8 ((44:UInt8).toNat:Int))],[GV.v (.int .u8 ((32:UInt8).toNat:Int))]]=dy (d++[44,32]) by simp,show d.length+([44,32]:ab).length=(d++[44,32]).length by simp];refine I ?_;refine b6 [0,1] (sI z (d++[44,32]).length Q T (dy (d++[44,32])) zfg zff) ?_;rintro _ _⟨⟨u2,rfl⟩,R,W,rfl⟩;refine ch ?_
    have X:List.length (d++[44,32])+List.length z=List.length ((d++[44,32])++z):=by grind
    rw[<-Mz,X];refine I ?_;exact⟨rfl,rfl,_,_,Wk.aZ az,(d++[44,32])++z,R,W,rfl,m.symm,rfl⟩
   ·rintro _ _⟨d,a,c,rfl,i,rfl⟩
    have hj:cE l=d:=by
     rw[i,<-O,show((y::r).map fun s=>[GV.v (sv s)]).length=(y::r).length by simp,dD];rfl
    rw[hj]at t A |-
    have M:d≠[]:=by
     grind
    have B:=Qj d a c M V;refine I ?_;refine D [0,1] B ?_;exact ay
open Go.Xp (Nd T)
open Go.Sp (Src)
open Go.Im (pM rl tr kG)
mutual
def tT:T->GV
 |.mk n l=>.box [.v (ii n.ai),.v (ii n.at_),.v (ii n.n),.v (sv n.s),ints n.aw,.sl 1 (cW l)] 0
def cW:List T->List am
 |[]=>[]
 |t::r=>[tT t]::cW r
end
abbrev uT(t:T):GV:=.box [.v (ii t.n.ai),.v (ii t.n.at_),.v (ii t.n.n),.v (sv t.n.s),ints t.n.aw,.sl 1 (cW t.aw)] 0
theorem aad(t:T):tT t=uT t:=by cases t;rfl
theorem jU(l:List T):cW l=l.map fun t=>[uT t]:=by
 induction l with
 |nil=>rfl
 |cons t l O=>rw[cW,O,aad];rfl
theorem y5(l:List T):(cW l).length=l.length:=by rw[jU];simp
theorem Kh(l:List T)(t:T):cW (l++[t])=cW l++[[uT t]]:=by grind[jU]
theorem vU{l:List T}{i:Nat}{t:T}(h:l[i]?=some t):(cW l)[i]?=some [uT t]:=by grind[jU,dB]
def trG:Option (T × Nat)->GV
 |none=>.tup [U,U,.v (.bool false)]
 |some (t,e)=>.tup [uT t,.v (ii (e:Nat)),.v (.bool true)]
theorem Sa(ah:List Nd)(hl:ah.length<=1099511627776)(S:∀n∈ah,n.aw.length<=1099511627776):∀(f a:Nat),ah.length-a+1<=f->a<=1099511627776 ->
  GF prog 142 [.sl 5 (ah.map aN),.v (ii (a:Nat))] [] (trG (pM ah f a)) []:=by
 intro f
 induction f with
 |zero=>intro a h;omega
 |succ f Y =>
 intro a hf ha;rw[pM]
 cases B:ah[a]? with
 |none =>
  have Q:ah.length<=a:=oP B
  have O:decide (((ah.map aN).length:Int)<=(a:Int))=true:=by grind
  refine au func142 ntmps142 ?_;exact zdY
 |some n =>
  have u:=(bY B).1
  have O:decide (((ah.map aN).length:Int)<=(a:Int))=false:=by grind
  have hr:(ah.map aN)[a]?=some (aN n):=by grind
  have X:=S n (bP B);simp only;generalize N:rl (pM ah f) n.aw (a+1) []=R;refine au func142 ntmps142 ?_;refine GW.wk (Wk.tV (i:=0) (o:=5) 132 1 rfl rfl) ?_
  refine GW.range (n.aw.map fun i=>[GV.v (ii i)]).length (fun k M Γ=>∃next c m b,M=[.sl 5 (ah.map aN),.v (ii (a:Nat)),U,U,U,U,U,.loc 0 0,.v (ii (next:Nat)),U,U,U,U,U,U,U,U,U,U,U,U,U,U,U,U,U,U,U,U,U,ints n.aw,.v (ii ((n.aw.map fun i=>[GV.v (ii i)]).length:Int)),.v (ii (k:Nat)),U,U,U,U,U,U,U,U,U,U,U,U,U,U,U,U,U,U,U,U,U,U,U,U,U,U,U,U,U,U,U,U,U,U,U] /\
   Γ=[.box 191 [.v (ii n.ai),.v (ii n.at_),.v (ii n.n),.v (sv n.s),ints n.aw,.vec 1 m],.vec 132 1 0 b]/\b.length=m/\b=cW c/\m=k/\a+1<=next/\next<=ah.length/\rl (pM ah f) (n.aw.drop k) next c=R) ?_ zff ?_ ?_ ?_
  ·exact⟨_,_,Wk.aZ az,a+1,[],0,[],rfl,rfl,rfl,rfl,rfl,aY _,u,N⟩
  ·rintro k _ _⟨next,c,m,b,rfl,rfl,_⟩;exact dO
  ·rintro k _ _ r⟨next,c,m,b,rfl,rfl,w,d,A,C,E,h⟩
   have r:k<n.aw.length:=by grind
   have T:n.aw[k]?=some n.aw[k]:=by simp[r]
   have W:(n.aw.map fun i=>[GV.v (ii i)])[k]?=some [.v (ii n.aw[k])]:=by simp
   rw[j3 r,rl]at h;generalize n.aw[k]=z at *
   by_cases G:z=(next:Int)
   ·rw[ak G]at h;subst G
    have H:((next:Int) != (next:Int))=false:=by simp
    have l:=Y next V V
    cases F:pM ah f next with
    |none =>
     rw[F]at h l;subst h;refine I ?_;refine D [] l ?_;exact zdY
    |some x =>
     have⟨t,e⟩:=x;rw[F]at h l;simp only at h
     have⟨s1,Z,_,_⟩:=Go.Im.As f next t e F
     refine I ?_;refine D [] l ?_;refine zbD ?_;exact⟨rfl,rfl,_,_,Wk.aZ az,e,c++[t],_,_,rfl,rfl,by simp[w],by rw[Kh,d],by omega,by omega,Z,h⟩
   ·rw[ae G]at h;subst h
    have H:(z != (next:Int))=true:=by grind
    refine I ?_;exact zdY
  ·rintro _ _⟨next,c,m,b,rfl,rfl,w,d,A,C,E,h⟩;rw[show n.aw.drop (n.aw.map fun i=>[GV.v (ii i)]).length=[] by simp,rl]at h;subst h;simp only;subst d;refine bh ?_;refine GW.wk (Wk.pd (i:=0) (o:=5) (j:=1) rfl rfl rfl rfl w) ?_
   by_cases J:n.at_<0
   ·rw[ak J]
    have q:decide ((0:Int)<=n.at_)=false:=by grind
    refine zep ?_;exact zdY
   ·rw[ae J]
    have q:decide ((0:Int)<=n.at_)=true:=by grind
    refine zep ?_;refine C0 ?_;exact zah
def zO(ah:List Nd):Option (List T × Nat)->GV
 |none=>.tup [U,.v (.bool false)]
 |some (l,e)=>.tup [.sl 1 (cW l),.v (.bool ((e:Int)==(ah.length:Int)))]
theorem tG(p:Src)(O:p.ah.length<=1099511627776)(N:∀n∈p.ah,n.aw.length<=1099511627776)(hf:p.av.length<=1099511627776) :
  GF prog 74 [.agg (aB p)] [] (zO p.ah (kG p.ah p.av 0 [])) []:=by
 generalize q:kG p.ah p.av 0 []=R;refine au func74 ntmps74 ?_;refine GW.wk (Wk.Cz (t:=4) (a:=none) (c:=0) 132 1 rfl) ?_
 refine GW.range (p.av.map aD).length (fun k M C=>∃next T m H,M=U::.loc 0 0::U::U::.vec 1 m::.v (ii (next:Nat))::U::U::U::U::U::U::.sl 3 (p.av.map aD)::.v (ii ((p.av.map aD).length:Int))::.v (ii (k:Nat))::zU 31 [] /\
  C=[.box 28 (aB p),.vec 132 1 0 H]/\H.length=m/\H=cW T/\m=k/\next<=p.ah.length/\kG p.ah (p.av.drop k) next T=R) ?_ zff ?_ ?_ ?_
 ·exact⟨_,_,Wk.aZ az,0,[],0,[],rfl,rfl,rfl,rfl,rfl,bp _,q⟩
 ·rintro k _ _⟨next,T,m,H,rfl,rfl,_⟩;exact dO
 ·rintro k _ _ i⟨next,T,m,H,rfl,rfl,j,S,w,l,h⟩
  have i:k<p.av.length:=by grind
  have A:p.av[k]?=some p.av[k]:=by simp[i]
  have Q:(p.av.map aD)[k]?=some (aD p.av[k]):=by grind
  rw[j3 i,kG]at h;generalize p.av[k]=fn at *
  have u:=Sa p.ah O N (p.ah.length+1) next V V
  unfold tr at h
  cases J:pM p.ah (p.ah.length+1) next with
  |none =>
   rw[J]at h u;subst h;refine I ?_;refine D [] u ?_;refine Hs ?_;exact zaA
  |some x =>
   have⟨t,e⟩:=x;rw[J]at h u;simp only at h
   have⟨E,B,_,_⟩:=Go.Im.As _ next t e J
   by_cases o:fn.body=(next:Int)
   ·rw[ak o]at h
    have r:(fn.body != (next:Int))=false:=by grind
    refine I ?_;refine D [] u ?_;refine zbD ?_;exact⟨rfl,rfl,_,_,(Wk.cut (n:=2) (bp _) rfl).trans (Wk.aZ az),e,T++[t],_,_,rfl,rfl,by simp[j],by rw[Kh,S],by omega,B,h⟩
   ·rw[ae o]at h;subst h
    have r:(fn.body != (next:Int))=true:=by grind
    refine I ?_;refine D [] u ?_;refine Hs ?_;exact zaA
 ·rintro _ _⟨next,T,m,H,rfl,rfl,j,S,w,l,h⟩;rw[show p.av.drop (p.av.map aD).length=[] by simp,kG]at h;subst h;subst S;refine bh ?_;refine GW.wk (Wk.jx (t:=4) rfl rfl rfl j) ?_
  have z:p.ah.length=(p.ah.map aN).length:=by simp
  unfold zO;rw[z];refine I ?_;refine aV (aL 0 8 .nil) ?_;refine ax ?_;exact rR
open Go.Sp
structure PX where
 a:Value
 b:Value
 c:Value
 d:Value
 e:Value
abbrev cP(p:RS)(x:PX):Ob:=.box 210 [iv p.l,.v (ii p.i),.v (ii p.e),.v (ii p.code),.v (ii p.at_),.v x.a,.v x.b,.v x.c,.v x.d,.v x.e]
theorem r8(p:RS)(k:Nat)(x:PX)(W:p.ok)(O:k<=1):GF prog 255 [.loc 0 0,.v (ii (k:Nat))] [cP p x] (.agg (dp (Go.Im.tok p k))) [cP p x]:=by
 have⟨X,G⟩:=W;unfold Go.Im.tok
 cases M:p.l[p.i+k]? with
 |some t =>
  have w:=lA M;have N:p.i+k<p.l.length:=(bY M).1
  have T:decide (((p.l.map dp).length:Int)<=((p.i+k:Nat):Int))=false:=by grind
  refine au func255 ntmps255 ?_;refine aV (aL 0 12 .nil) ?_;refine bn ?_;refine aV (aL 0 12 (.a 12 .nil)) ?_;refine ax ?_;exact kT
 |none =>
  have N:p.l.length<=p.i+k:=oP M
  have T:decide (((p.l.map dp).length:Int)<=((p.i+k:Nat):Int))=true:=by grind
  refine au func255 ntmps255 ?_;refine aV (aL 0 12 .nil) ?_;refine ax ?_;exact kT
theorem Fb(p:RS)(c a:Int)(x:PX):GF prog 314 [.loc 0 0,.v (ii c),.v (ii a)] [cP p x] (.tup []) [cP (p.fail c a) x]:=by
 unfold RS.fail
 by_cases h:p.code=0
 ·have e:(p.code==0)=true:=by grind
  rw[ak h];refine au func314 ntmps314 ?_;refine cm ?_;simp
 ·have e:(p.code==0)=false:=by grind
  rw[ae h];refine au func314 ntmps314 ?_;refine cm ?_;simp
theorem zc(p:RS)(x:PX)(W:p.ok):GF prog 256 [.loc 0 0] [cP p x] (.tup []) [cP (Go.Im.lN p) x]:=by
 have M:=r8 p 0 x W aR;unfold Go.Im.lN;generalize Go.Im.tok p 0=t at *;have l:=Fb p 7 t.at_ x;refine au func256 ntmps256 ?_;refine D [0] M ?_;refine D [0] l ?_;refine cm ?_;simp
theorem wA(p:RS)(d:Nat)(x:PX)(W:p.ok):GF prog 316 [.loc 0 0,.v (ii (d:Nat))] [cP p x] (.v (.bool ((Go.Im.cV p d).code==0))) [cP (Go.Im.cV p d) x]:=by
 have M:=r8 p 0 x W aR;unfold Go.Im.cV;generalize Go.Im.tok p 0=t at *
 by_cases h:d>60
 ·have e:decide ((60:Int)<(d:Int))=true:=by grind
  rw[ak h];have l:=Fb p 9 t.at_ x;generalize p.fail 9 t.at_=q at *;refine au func316 ntmps316 ?_;refine D [0] M ?_;refine D [0] l ?_;exact ay
 ·have e:decide ((60:Int)<(d:Int))=false:=by grind
  rw[ae h];refine au func316 ntmps316 ?_;exact ay
theorem lD(p:RS)(k:Nat)(s:ab)(x:PX)(W:p.ok)(N:k<=1):GF prog 253 [.loc 0 0,.v (ii (k:Nat)),.v (sv s)] [cP p x] (.v (.bool (Go.Im.is p k s))) [cP p x]:=by
 have M:=r8 p k x W N;unfold Go.Im.is;generalize Go.Im.tok p k=t at *
 cases h:(t.ai==3)with
 |true =>
  rw[Bool.true_and];refine au func253 ntmps253 ?_;exact zdO
 |false =>
  rw[Bool.false_and];refine au func253 ntmps253 ?_;exact zdO
theorem rG(p:RS)(x:PX)(W:p.ok):GF prog 254 [.loc 0 0] [cP p x] (.v (sv (Go.Im.tok p 0).s)) [cP (Go.Im.cv p) x]:=by
 have M:=r8 p 0 x W aR;have m:=zc p x W;have d:=W.2;have w:=W.1;unfold Go.Im.cv;generalize Go.Im.tok p 0=t at *;have l:=Fb p 8 t.at_ x
 by_cases X:p.code=0
 ·have u:(p.code != 0)=false:=by grind
  rw[ak X]
  by_cases b:t.ai=2
  ·have i:(t.ai != 2)=false:=by grind
   rw[ak b]
   by_cases N:t.s.length>12
   ·have j:decide ((12:Int)<(t.s.length:Int))=true:=by grind
    rw[ak N];refine au func254 ntmps254 ?_;refine D [0] M ?_;refine D [0] l ?_;exact ay
   ·have j:decide ((12:Int)<(t.s.length:Int))=false:=by grind
    rw[ae N];refine au func254 ntmps254 ?_;exact zdO
  ·have i:(t.ai != 2)=true:=by grind
   rw[ae b];refine au func254 ntmps254 ?_;refine D [0] M ?_;refine D [0] m ?_;exact ay
 ·have u:(p.code != 0)=true:=by grind
  rw[ae X];refine au func254 ntmps254 ?_;exact zdO
theorem gg(p:RS)(s:ab)(x:PX)(W:p.ok):GF prog 257 [.loc 0 0,.sl 1 [[.v (sv s)]]] [cP p x] (.tup []) [cP (Go.Im.want p s) x]:=by
 have i:=lD p 0 s x W aR;have l:=zc p x W;have d:=W.2;have t:=W.1;unfold Go.Im.want;generalize Go.Im.lN p=q at *;have z:([[GV.v (sv s)]]:List am)[0]?=some [.v (sv s)]:=rfl;refine au func257 ntmps257 ?_
 by_cases X:p.code=0
 ·have w:(p.code != 0)=false:=by grind
  rw[ak X]
  cases h:Go.Im.is p 0 s with
  |true =>
   rw[h]at i;rw[ak rfl];refine GW.range 1 (fun k J u=>J=.loc 0 0::U::U::U::U::U::.sl 1 [[.v (sv s)]]::.v (ii ((1:Nat):Int))::.v (ii (k:Nat))::zU 22 []/\((k=0/\u=[cP p x])\/(1<=k/\u=[cP p.next x]))) ?_ aR ?_ ?_ ?_
   ·exact⟨_,_,Wk.aZ az,rfl,.inl ⟨rfl,rfl⟩⟩
   ·rintro k _ _⟨rfl,_⟩;exact dO
   ·rintro k _ _ N⟨rfl,⟨rfl,rfl⟩|⟨o,_⟩⟩
    ·refine I ?_;refine D [0] i ?_;exact⟨rfl,rfl,_,_,Wk.aZ az,rfl,.inr ⟨aY _,rfl⟩⟩
    ·omega
   ·rintro _ _⟨rfl,⟨o,_⟩|⟨_,rfl⟩⟩
    ·cases o
    ·exact zcg
  |false =>
   rw[h]at i;rw[ae aR];refine GW.range 1 (fun k J u=>J=.loc 0 0::U::U::U::U::U::.sl 1 [[.v (sv s)]]::.v (ii ((1:Nat):Int))::.v (ii (k:Nat))::zU 22 []/\k=0/\u=[cP p x]) ?_ aR ?_ ?_ ?_
   ·exact lk
   ·rintro k _ _⟨rfl,_⟩;exact dO
   ·rintro k _ _ N⟨rfl,rfl,rfl⟩;refine I ?_;refine D [0] i ?_;refine D [0] l ?_;refine cm ?_;simp
   ·rintro _ _⟨rfl,o,_⟩;cases o
 ·have w:(p.code != 0)=true:=by grind
  rw[ae X];refine GW.range 1 (fun k J u=>J=.loc 0 0::U::U::U::U::U::.sl 1 [[.v (sv s)]]::.v (ii ((1:Nat):Int))::.v (ii (k:Nat))::zU 22 []/\k=0/\u=[cP p x]) ?_ aR ?_ ?_ ?_
  ·exact lk
  ·rintro k _ _⟨rfl,_⟩;exact dO
  ·rintro k _ _ N⟨rfl,rfl,rfl⟩;exact zcg
  ·rintro _ _⟨rfl,o,_⟩;cases o
open Go.Xp (T one levels)
mutual
def pT:T->GV
 |.mk n l=>.box [.v (ii n.ai),.v (ii n.at_),.v (ii n.n),.v (sv n.s),.v (.slice none 0 0),.sl 1 (lP l)] 0
def lP:List T->List am
 |[]=>[]
 |t::r=>[pT t]::lP r
end
abbrev qT(t:T):GV:=.box [.v (ii t.n.ai),.v (ii t.n.at_),.v (ii t.n.n),.v (sv t.n.s),.v (.slice none 0 0),.sl 1 (lP t.aw)] 0
theorem aaa(t:T):pT t=qT t:=by cases t;rw[pT];rfl
theorem ja(l:List T):lP l=l.map fun t=>[qT t]:=by
 induction l with
 |nil=>rfl
 |cons t l O=>rw[lP,O,aaa];rfl
theorem nW(l:List T):(lP l).length=l.length:=by rw[ja];simp
theorem vO(l:List T)(t:T):lP (l++[t])=lP l++[[qT t]]:=by rw[ja,ja];simp
theorem Br{l:List T}{i:Nat}{t:T}(h:l[i]?=some t):(lP l)[i]?=some [qT t]:=by rw[ja,dB,h];rfl
theorem OM(k a:Int)(s:ab)(rows:List am):GF prog 315 [.v (ii k),.v (ii a),.v (sv s),.sl 1 rows] [] (.loc 0 0) [.box 191 [.v (ii k),.v (ii a),.v (ii 0),.v (sv s),.v (.slice none 0 0),.sl 1 rows]]:=by
 refine au func315 ntmps315 ?_;refine GW.wk (Wk.cells 0 rfl (ds:=[.v (ii k),.v (ii a),.v (ii 0),.v (sv s),.v (.slice none 0 0),.sl 1 rows]) fJ) ?_;refine GW.ret ?_;refine qc (n:=1) rfl ir rfl (bp _) rfl rfl ?_;exact zah
theorem fM(k a:Int)(s:ab)(l:List T)(rows:List am)(h:lP l=rows):GF prog 315 [.v (ii k),.v (ii a),.v (sv s),.sl 1 rows] [] (qT (one k a s l)) []:=by
 subst h;refine au func315 ntmps315 ?_;refine GW.wk (Wk.cells 0 rfl (ds:=[.v (ii k),.v (ii a),.v (ii 0),.v (sv s),.v (.slice none 0 0),.sl 1 (lP l)]) fJ) ?_;refine GW.wk (Wk.freeze (i:=0) rfl rfl rfl (bp _)) ?_;exact ay
theorem tR:GF prog 247 [] [] (.sl 1 (levels.map fun l=>[strs l])) []:=by
 refine au func247 ntmps247 ?_
 iterate 10 (refine bT ?_)
 exact aK
end Go.Xg
namespace Go.Xg
open Go.RowKit Go.Xw Go.Proofs Tryz
open GV (U)
open Go.Xp (levels hY)
open Go.Im (n5 tS)
attribute [local irreducible] GW GL GO YG GC GA bo bq
theorem decDigits_eq(n:Nat):Go.Lib.decDigits n=hY n:=by
 induction n using Nat.strongRecOn with
 |_ n O =>
  unfold Go.Lib.decDigits hY;split
  ·rfl
  ·rw[O (n / 10) V]
theorem UI(n:Int):Go.Lib.itoa n=n5 n:=by
 unfold Go.Lib.itoa n5;rw[decDigits_eq,decDigits_eq]
theorem EH(n:Int)(q : -9223372036854775808<=n)(r:n<=9223372036854775807):GF prog 188 [.v (ii n)] [] (.v (sv (n5 n))) []:=by
 refine GF.XT (vs:=[ii n]) fun K t w M s=>?_
 obtain⟨E,z,l⟩:=tB.all M s M.pow (zs:=vP.map fun z=>Value.int .u64 z) aR (fun m o x hx=>by
  rw[dB]at hx;unfold zI;rw[ae aR,ak rfl]
  cases G:vP[o]? with
  |none=>rw[G]at hx;cases hx
  |some y=>rw[G]at hx;cases hx;rfl)
 have Q:Go.Lib.TabIs prog w "internal/strconv.uint64pow10" .u64 Go.Lib.pow10Tab:=by
  unfold Go.Lib.TabIs World.var?;rw[show prog.globalNamed "internal/strconv.uint64pow10" = some 3 by kernel_rfl,show Go.Lib.pow10Tab=vP by decide];simp only[Option.bind_some,l]
 refine pF.DF (Calls.mono (strconv_Itoa n q r w Q) ?_);rintro e c⟨b,k,Z,H⟩;refine⟨_,b,by rw[UI];rfl,?_⟩;subst H;refine⟨rfl,rfl,rfl,by simp[Go.Sort.grow,World.drewN],fun j Y _=>?_⟩;simp only[Go.Sort.grow,World.drewN];rw[Array.getElem?_append_left Y]
theorem Rj(l:List ab)(s:ab)(M:l.length<=1099511627776):GF prog 248 [strs l,.box [.v (sv s)] 0] [] (.v (.bool (l.contains s))) []:=by
 have h:=iL l s M;generalize l.contains s=b at *;refine au func248 ntmps248 ?_;exact zcJ
def Cs(ls:List (List ab))(s:ab):Int:=match ls.findIdx? (fun l=>l.contains s)with|some i=>(i:Int)|none => -1
theorem HF(ls:List (List ab))(s:ab)(hn:ls.length<=1099511627776)(M:∀l∈ls,l.length<=1099511627776) :
  GF prog 246 [.sl 1 (ls.map fun l=>[strs l]),.fn (.func 248) [] [.box [.v (sv s)] 0]] [] (.v (ii (Cs ls s))) []:=by
 have C:(ls.map fun l=>[strs l]).length=ls.length:=by simp
 refine au func246 ntmps246 ?_;refine GW.range (ls.map fun l=>[strs l]).length (fun k J u=>J=[.sl 1 (ls.map fun l=>[strs l]),.fn (.func 248) [] [.box [.v (sv s)] 0],U,U,U,U,U,.v (ii ((ls.map fun l=>[strs l]).length:Int)),.v (ii (k:Nat)),U,U,U,U,U,U,U,U,U,U]/\u=[]/\(ls.take k).all (fun l=>!(l.contains s))=true) ?_ V ?_ ?_ ?_
 ·exact lk
 ·exact jA
 ·rintro k _ _ N⟨rfl,rfl,n⟩;rw[C]at N
  have w:ls[k]?=some ls[k]:=by simp[N]
  have z:(ls.map fun l=>[strs l])[k]?=some [strs ls[k]]:=by rw[dB,w];rfl
  have W:=Rj ls[k] s (M _ (getElem_mem N))
  have m:(ls.take (k+1)).all (fun l=>!(l.contains s))=((ls.take k).all (fun l=>!(l.contains s))&&!(ls[k].contains s)):=by rw[dd,w,all_append];simp
  have H:ls[k].contains s=true->Cs ls s=(k:Int):=fun o=>by
   have:ls.findIdx? (fun l=>l.contains s)=some k:=by
    rw[List.findIdx?_eq_some_iff_getElem];refine⟨N,o,fun j Y=>?_⟩;rw[ea]at n;have:=n ls[j] zfo;exact zdk
   unfold Cs;rw[this]
  generalize ls[k]=l at *
  cases i:l.contains s with
  |true =>
   rw[i]at W;rw[H i];refine I ?_;refine oJ [] W ?_;exact aK
  |false =>
   rw[i]at W m;refine I ?_;refine oJ [] W ?_;refine I ?_;exact⟨rfl,rfl,_,_,Wk.aZ az,rfl,rfl,by rw[m,n];rfl⟩
 ·rintro _ _⟨rfl,rfl,n⟩;rw[C,dD]at n
  have:ls.findIdx? (fun l=>l.contains s)=none:=by
   rw[List.findIdx?_eq_none_iff];intro x hx;rw[ea]at n;simpa using n x hx
  unfold Cs;rw[this];exact aK
theorem Dz(s:ab):GF prog 193 [.v (sv s)] [] (.v (ii (tS s))) []:=by
 have o:=tR;have b:=HF levels s aR aR;rw[show tS s=Cs levels s from rfl];generalize Cs levels s=z at *;generalize levels=t at *;refine au func193 ntmps193 ?_;refine GL.wk (Wk.freeze (i:=0) rfl rfl rfl (aY _)) ?_;refine GN (by simp only[nZ,nG];rfl) ?_;refine D [] o ?_;refine D [] b ?_;exact ay
open Go.Xp (T cE aU aM)
open Go.Im (vj oZ eg jm wc jc gM qi pX iG eG)
theorem Ox(t:T)(z:Int):GF prog 194 [uT t,.v (ii z)] [] (.v (.bool (oZ t z))) []:=by
 have h:=Dz t.n.s;unfold oZ
 cases N:(t.n.ai==6)with
 |true =>
  generalize tS t.n.s=y at *;refine au func194 ntmps194 ?_;exact zcJ
 |false =>
  refine au func194 ntmps194 ?_;exact ay
theorem uY(t:T)(b:Bool)(x:ab)(hx:x.length<=1099511627776)(h:GF prog 126 [uT t] [] (.v (sv x)) []) :
  GF prog 192 [uT t,.v (.bool b)] [] (.v (sv (vj b x))) []:=by
 unfold vj
 cases b with
 |true =>
  refine au func192 ntmps192 ?_;exact zcJ
 |false =>
  refine au func192 ntmps192 ?_;exact zcJ
theorem F0(ex:FuncId)[hf:fX prog ex](M:T->ab)(l:List T)(h:∀t∈l,GF prog ex [uT t] [] (.v (sv (M t))) [])(Y:(cE (l.map M)).length<=1099511627776)(Q:l.length<=1099511627776) :
  GF prog 191 [.sl 1 (cW l),.v (.func (.func ex) #[] #[])] [] (.v (sv (cE (l.map M)))) []:=by
 have o:=y5 l;have A:=Me (l.map M) Y zff;refine au func191 ntmps191 ?_;refine GW.wk (Wk.Cz (t:=5) (a:=none) (c:=0) 9 1 rfl) ?_;refine GW.range (cW l).length (fun k J u=>∃m H,J=.sl 1 (cW l)::.v (.func (.func ex) #[] #[])::U::U::U::.vec 0 m::U::U::.sl 1 (cW l)::.v (ii ((cW l).length:Int))::.v (ii (k:Nat))::zU 12 []/\u=[.vec 9 1 0 H]/\H.length=m/\H=((l.take k).map M).map (fun s=>[GV.v (sv s)])/\m=k) ?_ V ?_ ?_ ?_
 ·exact⟨_,_,Wk.aZ az,0,[],rfl,rfl,rfl,rfl,rfl⟩
 ·rintro k _ _⟨m,H,rfl,rfl,_⟩;exact dO
 ·rintro k _ _ N⟨m,H,rfl,rfl,j,R,z⟩;rw[o]at N
  have w:l[k]?=some l[k]:=by simp[N]
  have B:=vU w;have O:=h l[k] (getElem_mem N)
  have n:((l.take (k+1)).map M).map (fun s=>[GV.v (sv s)])=H++[[.v (sv (M l[k]))]]:=by grind[dd,gJ]
  generalize l[k]=t at *;refine I ?_;refine jW [] O ?_;refine I ?_;refine zbD ?_;exact⟨rfl,rfl,_,_,Wk.aZ az,_,_,rfl,rfl,by simp[j],n.symm,by omega⟩
 ·rintro _ _⟨m,H,rfl,rfl,j,R,z⟩;rw[o,dD]at R;refine bh ?_;refine GW.wk (Wk.jx (t:=5) rfl rfl rfl j) ?_;subst R;refine I ?_;refine D [] A ?_;exact ay
theorem Tr{t:T}(h:eG t.n.ai t.aw.length=true)(N:t.n.ai=3\/t.n.ai=5):∃a,t.aw=[a]:=by
 have:t.aw.length=1:=by
  grind[eG]
 match M:t.aw,this with
 |[a],_=>simp
theorem Ts{t:T}(h:eG t.n.ai t.aw.length=true)(N:t.n.ai=6):∃a b,t.aw=[a,b]:=by
 have:t.aw.length=2:=by
  grind[eG]
 match M:t.aw,this with
 |[a,b],_=>simp
theorem VR:∀(N:Nat)(t:T),aU t<=N->iG t=true->qi t->jc t<=1099511627776->GF prog 126 [uT t] [] (.v (sv (eg t))) []:=by
 intro N
 induction N with
 |zero=>intro t h;exact zed
 |succ N ih =>
 intro t hN hk E hw;have c:=Go.Im.we _ t (aY _) E;rw[Go.Xp.eI]at hN;rw[Go.Im.vD,aI,Go.Im.qd,ea]at hk;rw[Go.Im.mY]at E
 have d:∀a∈t.aw,GF prog 126 [uT a] [] (.v (sv (eg a))) []/\(eg a).length<=1099511627776:=fun a k=>by
  have u:=Go.Im.rS k;rw[Go.Im.kZ]at hw;have H:=Go.Im.gx E.2 k
  have X:aU a<=aM t.aw:=by
   have:∀(l:List T),a∈l->aU a<=aM l:=by
    intro l
    induction l with
    |nil=>simp
    |cons b l F =>
     grind[aU,aM]
   grind
  grind[Go.Im.we]
 rw[Go.Im.PA]at c |-;unfold wc at c |-;have C:=hk.1;have A:=@Tr t C;have B:=@Ts t C;have R:=EH t.n.n E.1.1 E.1.2;have Q:=Dz t.n.s
 have J:t.aw.length<=1099511627776:=by
  grind[Go.Im.FW,Go.Im.kZ]
 have e:=fun hj=>F0 126 eg t.aw (fun a k=>(d a k).1) hj J
 rw[<-Go.Im.Kj]at e
 have hsl:t.n.s.length<=1099511627776:=by grind[Go.Im.kZ]
 have z:(cE (jm t.aw)).length<=1099511627776:=by
  have u:=Go.Im.rC (jm t.aw)
  have X:((jm t.aw).map fun y=>y.length+2).sum<=gM t.aw:=by
   have:∀(l:List T),pX l->((jm l).map fun y=>y.length+2).sum<=gM l:=by
    intro l
    induction l with
    |nil=>grind[jm]
    |cons a l F =>
     intro h;rw[pX]at h;have u:=Go.Im.we _ a (aY _) h.1;have X:=F h.2;rw[jm,gM,List.map_cons,sum_cons];omega
   grind
  grind[Go.Im.kZ]
 have e:=e z;clear z;unfold uT;generalize Tb:t.n.ai=m at *
 by_cases u:m=1
 ·subst u
  have cL:((1:Int)==1)=true:=by decide
  rw[ak rfl];refine au func126 ntmps126 ?_;refine D [] R ?_;exact ay
 rw[ae u]at c |-
 have g1:(m==1)=false:=by grind
 by_cases H:m=3
 ·subst H
  have cL:((3:Int)==1)=false:=by decide
  have nE:((3:Int)==3)=true:=by decide
  rw[ak rfl]at c |-;have⟨a,k⟩:=A (.inl rfl);rw[k]at d c |-;have⟨r,G⟩:=d a (List.mem_singleton.2 rfl)
  have hr:(cW [a])[0]?=some [uT a]:=by rw[jU];rfl
  simp only[jm,getD_cons_zero]at c |-;generalize cW [a]=j at *;generalize eg a=x at *;refine au func126 ntmps126 ?_;refine aV (aL 0 12 (.a 12 (aL 13 3 .nil))) ?_;refine ax ?_;refine aP [] r ?_;exact aK
 rw[ae H]at c |-
 have g3:(m==3)=false:=by grind
 by_cases Y:m=4
 ·subst Y
  have cL:((4:Int)==1)=false:=by decide
  have nE:((4:Int)==3)=false:=by decide
  have W:((4:Int)==4)=true:=by decide
  rw[ak rfl]at c |-;generalize cW t.aw=j at *;generalize cE (jm t.aw)=x at *;simp only[br,length_cons,length_nil]at c;refine au func126 ntmps126 ?_;exact zdn
 rw[ae Y]at c |-
 have g4:(m==4)=false:=by grind
 by_cases Z:m=5
 ·subst Z
  have cL:((5:Int)==1)=false:=by decide
  have nE:((5:Int)==3)=false:=by decide
  have W:((5:Int)==4)=false:=by decide
  have f5:((5:Int)==5)=true:=by decide
  rw[ak rfl]at c |-;have⟨a,k⟩:=A (.inr rfl);rw[k]at d c |-;have⟨r,G⟩:=d a (List.mem_singleton.2 rfl)
  have hr:(cW [a])[0]?=some [uT a]:=by rw[jU];rfl
  simp only[jm,getD_cons_zero]at c |-;have o:=uY a (a.n.ai==6) (eg a) G r;have hbl:=Go.Im.IB (a.n.ai==6) (eg a);generalize cW [a]=j at *;generalize S:vj (a.n.ai==6) (eg a)=x at *;refine au func126 ntmps126 ?_;refine aV (aL 0 23 (.a 23 (.q 24 (.q 25 .nil)))) ?_;refine ax ?_;refine aP [] o ?_;exact aK
 rw[ae Z]at c |-
 have g5:(m==5)=false:=by grind
 by_cases h6:m=6
 ·subst h6
  have cL:((6:Int)==1)=false:=by decide
  have nE:((6:Int)==3)=false:=by decide
  have W:((6:Int)==4)=false:=by decide
  have f5:((6:Int)==5)=false:=by decide
  have f6:((6:Int)==6)=true:=by decide
  rw[ak rfl]at c |-;have⟨a,b,k⟩:=B rfl;rw[k]at d c |-;have⟨r,G⟩:=d a (List.mem_cons_self);have⟨d1,d2⟩:=d b (ec _ List.mem_cons_self)
  have hr:(cW [a,b])[0]?=some [uT a]:=by rw[jU];rfl
  have Tg:(cW [a,b])[1]?=some [uT b]:=by rw[jU];rfl
  simp only[jm,getD_cons_zero,getD_cons_succ]at c |-
  have abT : -1<=tS t.n.s/\tS t.n.s<=9:=by
   unfold tS
   cases hf:levels.findIdx? (fun l=>l.contains t.n.s)with
   |none=>simp
   |some i =>
    rw[List.findIdx?_eq_some_iff_getElem]at hf;have:=hf.1
    have h9:levels.length=9:=by decide
    grind
  generalize tS t.n.s=lv at *;have M:=Ox a lv;have O:=Ox b (lv+1);have o:=uY a (oZ a lv) (eg a) G r;have w:=uY b (oZ b (lv+1)) (eg b) d2 d1;generalize cW [a,b]=j at *;generalize S:vj (oZ a lv) (eg a)=x at *;generalize hyy:vj (oZ b (lv+1)) (eg b)=y at *;simp only[br,length_cons,length_nil]at c;refine au func126 ntmps126 ?_;refine D [] Q ?_;refine aV (aL 0 14 (aL 17 5 (aL 24 15 (.a 14 (.a 15 (.q 16 (.q 22 (.q 23 (.a 39 (.a 40 (.q 41 (.q 42 .nil)))))))))))) ?_;refine ax ?_;refine yn [] M ?_;refine ax ?_;refine aP [] o ?_;refine yn [] O ?_;refine ax ?_;refine aP [] w ?_;exact aK
 rw[ae h6]
 have g6:(m==6)=false:=by grind
 refine au func126 ntmps126 ?_;exact ay
end Go.Xg
set_option maxHeartbeats 2000000
namespace Go.Xg
open Go.RowKit Go.Xw Go.Proofs Tryz Go.Im
open GV (U)
open Go.Xp (T)
attribute [local irreducible] GW GL GO YG GC GA bo bq
abbrev jH(f:FuncId):Value:=.func (.func f) #[] #[]
theorem FD(l:List ab)(d:Nat)(i:(ef l d).length<=1099511627776)(M:l.length<=1099511627776):GF prog 127 [strs l,.v (ii (d:Nat))] [] (.v (sv (ef l d))) []:=by
 have C:(l.map fun s=>[GV.v (sv s)]).length=l.length:=by simp
 have j:=rp l [123,32];unfold ef at i |-;rw[br,j]at i;refine au func127 ntmps127 ?_;refine GW.range (l.map fun s=>[GV.v (sv s)]).length (fun k J u=>J=[strs l,U,U,U,U,.v (sv (sJ [123,32] (l.take k))),U,U,strs l,.v (ii ((l.map fun s=>[GV.v (sv s)]).length:Int)),.v (ii (k:Nat)),U,U,U,U,U,U,U,U,U,U]/\u=[]) ?_ V ?_ ?_ ?_
 ·exact fV
 ·rintro k _ _⟨rfl,rfl⟩;exact dO
 ·rintro k _ _ N⟨rfl,rfl⟩;rw[C]at N
  have w:l[k]?=some l[k]:=by simp[N]
  have Q:(l.map fun s=>[GV.v (sv s)])[k]?=some [.v (sv l[k])]:=by rw[dB,w];rfl
  have o:=rp (l.take (k+1)) [123,32];have b:=Pv l (k+1)
  have m:kR (l.take (k+1))=kR (l.take k)+(l[k].length+1):=by rw[dd,w,G6];simp[kR]
  have G:=rp (l.take k) [123,32];rw[show l.take (k+1)=l.take k++[l[k]] by rw[dd,w];rfl,MD]at |-;generalize l[k]=z at *;generalize sJ [123,32] (l.take k)=T at *;simp only[length_cons,length_nil]at G i
  have E:T.length+z.length+3<=1099511627777:=by omega
  exact ze4
 ·rintro _ _⟨rfl,rfl⟩;rw[C,dD];generalize sJ [123,32] l=T at *;simp only[br,length_cons,length_nil]at j i;exact aK
theorem ZW(ex Y:FuncId)[hf:fX prog ex](M:T->ab)(t a:T)(k:Nat)(N:t.aw[k]?=some a)(h:GF prog ex [uT a] [] (.v (sv (M a))) []) :
  GF prog 309 [.v (ii (k:Nat)),.box [.v (jH ex),.v (jH Y)] 0,.box [uT t] 0] [] (.v (sv (M a))) []:=by
 have w:=vU N;generalize M a=x at *;refine au func309 ntmps309 ?_;refine aV (aL 0 9 (.a 9 (.q 10 .nil))) ?_;refine ax ?_;refine yn [] h ?_;exact zbv
open Go.Xp (aU aM)
structure Wr(ex bk:FuncId)(tx:T->ab)(inl:List ab->Nat->ab):Prop where
 expr:∀a,iG a=true->qi a->jc a<=1099511627776->GF prog ex [uT a] [] (.v (sv (tx a))) []
 block:∀l(d:Nat),(inl l d).length<=1099511627776->l.length<=1099511627776->d<=1099511627776->GF prog bk [strs l,.v (ii (d:Nat))] [] (.v (sv (inl l d))) []
 mem:∀l d s,s∈l->s.length<=(inl l d).length
theorem zj(ex Y:FuncId)[o:fX prog ex][i:fX prog Y](M:T->ab)(inl:List ab->Nat->ab)(W:Wr ex Y M inl)(t:T)(d:Nat)(hd:d+1<=1099511627776)(S:t.aw.length<=1099511627776)(e:(ko M inl d t).length<=1099511627776)
  (h:∀a∈t.aw,(gY M inl (d+1) a).length<=1099511627776->GF prog 245 [.agg [.v (jH ex),.v (jH Y)],uT a,.v (ii ((d+1:Nat):Int))] [] (.v (sv (gY M inl (d+1) a))) []) :
  GF prog 190 [.agg [.v (jH ex),.v (jH Y)],uT t,.v (ii (d:Nat))] [] (.v (sv (ko M inl d t))) []:=by
 have n:=y5 t.aw;rw[EX,CO]at e |-;have u:=W.block (t.aw.map (gY M inl (d+1))) d e zff V
 have O:∀a∈t.aw,GF prog 245 [.agg [.v (jH ex),.v (jH Y)],uT a,.v (ii ((d+1:Nat):Int))] [] (.v (sv (gY M inl (d+1) a))) []:=fun a B =>
  h a B (jk (W.mem _ d _ (ra.2 ⟨a,B,rfl⟩)) e)
 generalize inl (t.aw.map (gY M inl (d+1))) d=y at *;refine au func190 ntmps190 ?_;refine GW.wk (Wk.Cz (t:=7) (a:=none) (c:=0) 9 1 rfl) ?_;refine GW.range (cW t.aw).length (fun k J C=>∃m H,J=U::U::.v (ii (d:Nat))::.loc 0 0::U::U::U::.vec 1 m::U::U::U::U::U::.sl 1 (cW t.aw)::.v (ii ((cW t.aw).length:Int))::.v (ii (k:Nat))::zU 17 []/\C=[.box 194 [.v (jH ex),.v (jH Y)],.vec 9 1 0 H]/\H.length=m/\H=((t.aw.take k).map (gY M inl (d+1))).map (fun s=>[GV.v (sv s)])/\m=k) ?_ V ?_ ?_ ?_
 ·exact⟨_,_,Wk.aZ az,0,[],rfl,rfl,rfl,rfl,rfl⟩
 ·rintro k _ _⟨m,H,rfl,rfl,_⟩;exact dO
 ·rintro k _ _ N⟨m,H,rfl,rfl,j,R,A⟩;rw[n]at N
  have w:t.aw[k]?=some t.aw[k]:=by simp[N]
  have E:=vU w;have Q:=O t.aw[k] (getElem_mem N)
  have l:((t.aw.take (k+1)).map (gY M inl (d+1))).map (fun s=>[GV.v (sv s)])=H++[[.v (sv (gY M inl (d+1) t.aw[k]))]]:=by grind[dd,gJ]
  generalize t.aw[k]=kid at *;generalize gY M inl (d+1) kid=z at *;refine I ?_;refine D [] Q ?_;refine zbD ?_;exact⟨rfl,rfl,_,_,Wk.aZ az,_,_,rfl,rfl,by simp[j],l.symm,by omega⟩
 ·rintro _ _⟨m,H,rfl,rfl,j,R,A⟩;rw[n,dD]at R;refine bh ?_;refine GW.wk (Wk.jx (t:=7) rfl rfl rfl j) ?_;subst R;refine I ?_;refine jW [] u ?_;exact aK
theorem ZI{t:T}{n:Nat}(h:eG t.n.ai t.aw.length=true)(N:(n=1/\(t.n.ai=13\/t.n.ai=7\/t.n.ai=11\/t.n.ai=12))\/(n=2/\(t.n.ai=8\/t.n.ai=10))):t.aw.length=n:=by
 grind[eG]
theorem XL{t:T}(h:eG t.n.ai t.aw.length=true)(N:t.n.ai=9):t.aw.length=2\/t.aw.length=3:=by
 unfold eG at h;rw[N]at h;grind
theorem Ie(ex O:FuncId)[he:fX prog ex][hb:fX prog O](w:T->ab)(inl:List ab->Nat->ab)(W:Wr ex O w inl):∀(N:Nat)(t:T),aU t<=N->iG t=true->qi t->jc t<=1099511627776->∀d,d+aU t<=1099511627776->(gY w inl d t).length<=1099511627776 ->
  GF prog 245 [.agg [.v (jH ex),.v (jH O)],uT t,.v (ii (d:Nat))] [] (.v (sv (gY w inl d t))) []:=by
 intro N
 induction N with
 |zero=>intro t h;exact zed
 |succ N ih =>
 intro t hN Q hn hw d hd e;have G:=W.expr t Q hn hw;rw[Go.Xp.eI]at hN hd;rw[Go.Im.vD,aI,Go.Im.qd,ea]at Q;rw[Go.Im.mY]at hn;have hwe:=Go.Im.kZ t
 have J:∀(l:List T)(a:T),a∈l->aU a<=aM l:=by
  intro l
  induction l with
  |nil=>simp
  |cons b l ih2 =>
   grind[aU,aM]
 have j:=fun(k:Nat)(a:T)(F:t.aw[k]?=some a)=>ZW ex O w t a k F (W.expr a (Q.2 a (bP F)) (Go.Im.gx hn.2 (bP F)) (by have:=Go.Im.rS (bP F);omega))
 have r:∀a∈t.aw,(ko w inl d a).length<=1099511627776->GF prog 190 [.agg [.v (jH ex),.v (jH O)],uT a,.v (ii (d:Nat))] [] (.v (sv (ko w inl d a))) []:=fun a o Xc=>by
  have h1:=J _ a o;have h2:=Go.Im.rS o;have h3:=Q.2 a o;have h4:=Go.Im.gx hn.2 o;rw[Go.Im.vD,aI,Go.Im.qd,ea]at h3;rw[Go.Im.mY]at h4;have h5:=Go.Xp.eI a;have h6:=Go.Xp.eP a.aw;have h7:=Go.Im.kZ a
  refine zj ex O w inl W a d V V Xc fun b E hlb=>?_
  have h8:=J _ b E;have h9:=Go.Im.rS E
  grind[Go.Im.gx]
 rw[G0]at e |-;unfold sD at e |-;rw[B3]at e |-;have vy:=@ZI t;have aaW:=@XL t Q.1
 have vy:=fun n=>@vy n Q.1
 unfold uT at G |-;unfold uT at j;generalize Tb:t.n.ai=A at *
 by_cases SV:A=13
 ·subst SV
  have B:((13:Int)==13)=true:=by decide
  rw[ak rfl]at e |-;have m:=vy 1 (.inl ⟨rfl,.inl rfl⟩)
  obtain⟨a,o⟩:∃a,t.aw=[a]:=by
   match M:t.aw,m with
   |[a],_=>simp
  have s:=j 0 a zff;rw[o]at e |-;rw[o]at s;simp only[List.map_cons,map_nil,getD_cons_zero,br,length_cons,length_nil]at e |-;generalize w a=x at *;generalize cW [a]=u at *;refine dc func245 ntmps245 ?_;refine zaa ?_;refine aV (aL 0 8 (.a 8 (aL 9 3 .nil))) ?_;refine ax ?_;refine oK [] s ?_;exact zbv
 rw[ae SV]at e |-
 have g13:(A==13)=false:=by grind
 by_cases h7:A=7
 ·subst h7
  have B:((7:Int)==13)=false:=by decide
  have S:((7:Int)==7)=true:=by decide
  rw[ak rfl]at e |-;have m:=vy 1 (.inl ⟨rfl,.inr (.inl rfl)⟩)
  obtain⟨a,o⟩:∃a,t.aw=[a]:=by
   match M:t.aw,m with
   |[a],_=>simp
  have s:=j 0 a zff;rw[o]at e |-;rw[o]at s;simp only[List.map_cons,map_nil,getD_cons_zero,br,length_cons,length_nil]at e |-;generalize w a=x at *;generalize cW [a]=u at *;refine dc func245 ntmps245 ?_;refine zaa ?_;refine aV (aL 0 7 (.a 7 (aL 8 3 .nil))) ?_;refine ax ?_;refine oK [] s ?_;exact zbv
 rw[ae h7]at e |-
 have g7:(A==7)=false:=by grind
 by_cases h8:A=8
 ·subst h8
  have B:((8:Int)==13)=false:=by decide
  have S:((8:Int)==7)=false:=by decide
  have f8:((8:Int)==8)=true:=by decide
  rw[ak rfl]at e |-;have m:=vy 2 (.inr ⟨rfl,.inl rfl⟩)
  obtain⟨a,b,o⟩:∃a b,t.aw=[a,b]:=by
   match M:t.aw,m with
   |[a,b],_=>simp
  have s:=j 0 a zff;have h1:=j 1 b zff;rw[o]at e |-;rw[o]at s h1;simp only[List.map_cons,map_nil,getD_cons_zero,getD_cons_succ,br,length_cons,length_nil]at e |-;generalize w a=x at *;generalize w b=y at *;generalize cW [a,b]=u at *;refine dc func245 ntmps245 ?_;refine zaa ?_;refine aV (aL 0 7 (.q 10 (.a 7 (.q 8 (.q 9 (.a 11 (aL 12 3 .nil))))))) ?_;refine ax ?_;refine oK [] s ?_;refine ax ?_;refine oK [] h1 ?_;exact zbv
 rw[ae h8]at e |-
 have g8:(A==8)=false:=by grind
 by_cases h9:A=9
 ·subst h9
  have B:((9:Int)==13)=false:=by decide
  have S:((9:Int)==7)=false:=by decide
  have f8:((9:Int)==8)=false:=by decide
  have f9:((9:Int)==9)=true:=by decide
  rw[ak rfl]at e |-
  rcases aaW rfl with m|m
  ·skip
   obtain⟨a,b,o⟩:∃a b,t.aw=[a,b]:=by
    match M:t.aw,m with
    |[a,b],_=>simp
   have s:=j 0 a zff
   have Tg:(cW [a,b])[1]?=some [uT b]:=by rw[jU];rfl
   have H:(cW [a,b]).length=2:=by rfl
   have xo:(((cW [a,b]).length:Int)==3)=false:=by rfl
   rw[o]at e |-;rw[o]at s;rw[ae zfg]at e |-;exact zau
  ·skip
   obtain⟨a,b,c,o⟩:∃a b c,t.aw=[a,b,c]:=by
    match M:t.aw,m with
    |[a,b,c],_=>simp
   have s:=j 0 a zff
   have Tg:(cW [a,b,c])[1]?=some [uT b]:=by rw[jU];rfl
   have Ft:(cW [a,b,c])[2]?=some [uT c]:=by rw[jU];rfl
   have H:(cW [a,b,c]).length=3:=by rfl
   have xo:(((cW [a,b,c]).length:Int)==3)=true:=by rfl
   rw[o]at e |-;rw[o]at s;rw[ak zfg]at e |-;simp only[List.map_cons,map_nil,getD_cons_zero,getD_cons_succ,br,length_cons,length_nil]at e |-;have C:=r b zff V;have E:=r c zff V;generalize w a=x at *;generalize ko w inl d b=y at *;generalize ko w inl d c=z at *;clear r j ih;generalize cW [a,b,c]=u at *;refine dc func245 ntmps245 ?_;refine zaa ?_;refine aV (.q 0 (aL 4 8 (.a 1 (.q 2 (.q 3 (.a 12 (.q 13 (.q 14 .nil)))))))) ?_;refine ax ?_;refine oK [] s ?_;refine ax ?_;refine aP [] C ?_;refine I ?_;refine aV (aL 0 9 (.a 9 (aL 10 3 .nil))) ?_;refine ax ?_;refine aP [] E ?_;exact aK
 rw[ae h9]at e |-
 have g9:(A==9)=false:=by grind
 by_cases X:A=10
 ·subst X
  have B:((10:Int)==13)=false:=by decide
  have S:((10:Int)==7)=false:=by decide
  have f8:((10:Int)==8)=false:=by decide
  have f9:((10:Int)==9)=false:=by decide
  have R:((10:Int)==10)=true:=by decide
  rw[ak rfl]at e |-;have m:=vy 2 (.inr ⟨rfl,.inr rfl⟩)
  ·skip
   obtain⟨a,b,o⟩:∃a b,t.aw=[a,b]:=by
    match M:t.aw,m with
    |[a,b],_=>simp
   have s:=j 0 a zff
   have Tg:(cW [a,b])[1]?=some [uT b]:=by rw[jU];rfl
   have H:(cW [a,b]).length=2:=by rfl
   have xo:(((cW [a,b]).length:Int)==3)=false:=by rfl
   rw[o]at e |-;rw[o]at s;exact zau
 rw[ae X]at e |-
 have g10:(A==10)=false:=by grind
 by_cases Y:A=11
 ·subst Y
  have B:((11:Int)==13)=false:=by decide
  have S:((11:Int)==7)=false:=by decide
  have f8:((11:Int)==8)=false:=by decide
  have f9:((11:Int)==9)=false:=by decide
  have R:((11:Int)==10)=false:=by decide
  have f11:((11:Int)==11)=true:=by decide
  rw[ak rfl]at e |-;have m:=vy 1 (.inl ⟨rfl,.inr (.inr (.inl rfl))⟩)
  obtain⟨a,o⟩:∃a,t.aw=[a]:=by
   match M:t.aw,m with
   |[a],_=>simp
  exact zaV
 rw[ae Y]at e |-
 have g11:(A==11)=false:=by grind
 by_cases Z:A=12
 ·subst Z
  have B:((12:Int)==13)=false:=by decide
  have S:((12:Int)==7)=false:=by decide
  have f8:((12:Int)==8)=false:=by decide
  have f9:((12:Int)==9)=false:=by decide
  have R:((12:Int)==10)=false:=by decide
  have f11:((12:Int)==11)=false:=by decide
  have f12:((12:Int)==12)=true:=by decide
  rw[ak rfl]at e |-;have m:=vy 1 (.inl ⟨rfl,.inr (.inr (.inr rfl))⟩)
  obtain⟨a,o⟩:∃a,t.aw=[a]:=by
   match M:t.aw,m with
   |[a],_=>simp
  exact zaV
 rw[ae Z]at e |-
 have g12:(A==12)=false:=by grind
 clear r j ih;generalize w t=x at *;refine dc func245 ntmps245 ?_;refine zaa ?_;refine jW [] G ?_;exact aK
open Go.Xp (cE)
open Go.Sp (Src)
theorem FN(ex O:FuncId)[he:fX prog ex][hb:fX prog O](F:T->ab)(inl:List ab->Nat->ab)(W:Wr ex O F inl)(p:Src)(aE:List T)(E:(lR F inl p aE).length<=1099511627776)(hft:p.av.length=aE.length)
  (hg:p.aq.length<=1099511627776)(ha:p.aj.length<=1099511627776)(hf:p.av.length<=1099511627776)(Fl:∀a∈p.aj,-9223372036854775808<=a.size/\a.size<=9223372036854775807)(Jj:∀f∈p.av,f.params.length<=1099511627776)
  (ht:∀t∈aE,iG t=true/\qi t/\jc t<=1099511627776/\aU t+1<=1099511627776) :
  GF prog 125 [.agg (aB p),.sl 1 (cW aE),.v (jH ex),.v (jH O)] [] (.v (sv (lR F inl p aE))) []:=by
 have Z:(p.aq.map fun s=>[GV.v (sv s)]).length=p.aq.length:=by simp
 have X:(p.aj.map aW).length=p.aj.length:=by simp
 have Y:(p.av.map aD).length=p.av.length:=by simp
 have l2:=Ca (cL F inl) (p.av.zip aE) (dU a1 (dU g1 [] p.aq) p.aj);have l1:=Ca a1 p.aj (dU g1 [] p.aq);unfold lR at E |-;refine au func125 ntmps125 ?_;refine GW.wk (Wk.Cz (t:=9) (a:=none) (c:=0) 5 1 rfl) ?_;refine GW.range (p.aq.map fun s=>[GV.v (sv s)]).length (fun k R Γ=>∃r m d,R=[U,.sl 1 (cW aE),.v (jH ex),.v (jH O),.loc 0 0,U,U,U,U,.vec 1 m,U,U,U,U,U,U,U,U,strs p.aq,.v (ii ((p.aq.map fun s=>[GV.v (sv s)]).length:Int)),.v (ii (k:Nat)),U,U,U,U,U,U,U,U,U,U,U,U,U,U,U,U,U,U,U,U,U,U,U,U,U,U,U,U,U,U,U,U,U,U,U,U,U,U,U,U,U,U,U,U,U,U,U,U,U,U,U,U,U,U,U,U,U,U,U,U,U]/\Γ=[.box 28 (aB p),.vec 5 1 0 d]/\d.length=m/\d=dy r/\r=dU g1 [] (p.aq.take k)) ?_ V ?_ ?_ ?_
 ·exact⟨_,_,Wk.aZ az,[],0,[],rfl,rfl,rfl,rfl,rfl⟩
 ·rintro k _ _⟨r,m,d,rfl,rfl,_⟩;exact dO
 ·rintro k _ _ u⟨r,m,d,rfl,rfl,G,i,H⟩;rw[Z]at u
  have Q:p.aq[k]?=some p.aq[k]:=by simp[u]
  have N:(p.aq.map fun s=>[GV.v (sv s)])[k]?=some [.v (sv p.aq[k])]:=by grind
  have j:dU g1 [] (p.aq.take (k+1))=r++g1 p.aq[k]:=by grind[dd,xz]
  have J:=xA g1 p.aq (k+1) [];rw[j,br]at J
  have hmr:d.length=r.length:=by grind
  generalize p.aq[k]=z at *
  have hz:(g1 z).length=z.length+6:=by simp[g1]
  refine I ?_;refine GL.BW (str:=g1 z) rfl rfl rfl aQ rfl V ?_;refine zb0 ?_;exact⟨rfl,rfl,_,_,Wk.aZ az,r++g1 z,_,_,rfl,rfl,by grind,by grind,j.symm⟩
 ·rintro _ _⟨r,m,d,rfl,rfl,G,i,H⟩;rw[Z,dD]at H;rw[<-H]at E l1 l2 |-;refine bh ?_;refine I ?_;refine GW.range (p.aj.map aW).length (fun k R Γ=>∃e m d,R=U::.sl 1 (cW aE)::.v (jH ex)::.v (jH O)::.loc 0 0::U::U::U::U::.vec 1 m::zU 21 (.sl 2 (p.aj.map aW)::.v (ii ((p.aj.map aW).length:Int))::.v (ii (k:Nat))::zU 48 [])/\Γ=[.box 28 (aB p),.vec 5 1 0 d]/\d.length=m/\d=dy e/\e=dU a1 r (p.aj.take k)) ?_ V ?_ ?_ ?_
  ·exact⟨_,_,Wk.aZ az,r,m,d,rfl,rfl,G,i,rfl⟩
  ·rintro k _ _⟨e,m,d,rfl,rfl,_⟩;exact dO
  ·clear G i;rintro k _ _ u⟨e,m,d,rfl,rfl,G,i,B⟩;rw[X]at u
   have Q:p.aj[k]?=some p.aj[k]:=by simp[u]
   have N:(p.aj.map aW)[k]?=some (aW p.aj[k]):=by grind
   have j:dU a1 r (p.aj.take (k+1))=e++a1 p.aj[k]:=by grind[dd,xz]
   have J:=xA a1 p.aj (k+1) r;rw[j,br]at J
   have hmr:d.length=e.length:=by grind
   have A:=Fl p.aj[k] (getElem_mem u);generalize p.aj[k]=z at *;have hit:=EH z.size A.1 A.2;have Je:=ss A
   have hz:(a1 z).length=z.name.length+(n5 z.size).length+8:=by grind[a1]
   unfold aW at N;refine I ?_;refine aV (aL 0 7 (.a 7 (.q 8 (.q 9 (.a 10 (.q 11 .nil)))))) ?_;refine ax ?_;refine aP [] hit ?_;refine OA rfl rfl (GL.BW (str:=a1 z) rfl rfl rfl aQ rfl V (GL.nil (bh (dL.mk zfe ?_))))
   refine PK ?_;refine bn ?_;exact⟨rfl,rfl,_,_,(Wk.cut (n:=2) (bp _) rfl).trans (Wk.aZ az),e++a1 z,_,_,rfl,rfl,by grind,by grind,j.symm⟩
  ·clear G i;rintro _ _⟨e,m,d,rfl,rfl,G,i,B⟩;rw[X,dD]at B;rw[<-B]at E l2 |-
   have wI:∀(k:Nat)(f:Go.Sp.Fn),p.av[k]?=some f->f.params.length<=1099511627776:=fun k f h=>Jj f (bP h)
   refine bh ?_;refine I ?_;refine GW.range (p.av.map aD).length (fun k R Γ=>∃o m d,R=U::.sl 1 (cW aE)::U::U::U::U::U::U::U::.vec 1 m::U::U::U::U::.loc 2 0::zU 38 (.sl 3 (p.av.map aD)::.v (ii ((p.av.map aD).length:Int))::.v (ii (k:Nat))::zU 26 [])/\Γ=[.box 28 (aB p),.vec 5 1 0 d,.box 194 [.v (jH ex),.v (jH O)]]/\d.length=m/\d=dy o/\o=dU (cL F inl) e ((p.av.zip aE).take k)) ?_ V ?_ ?_ ?_
   ·exact⟨_,_,Wk.aZ az,e,m,d,rfl,rfl,G,i,rfl⟩
   ·rintro k _ _⟨o,m,d,rfl,rfl,_⟩;exact dO
   ·clear G i;rintro k _ _ u⟨o,m,d,rfl,rfl,G,i,C⟩;rw[Y]at u
    have S:k<aE.length:=by omega
    have Q:p.av[k]?=some p.av[k]:=by simp[u]
    have hkt:aE[k]?=some aE[k]:=by simp
    have N:(p.av.map aD)[k]?=some (aD p.av[k]):=by grind
    have abQ:=vU hkt
    have hkz:(p.av.zip aE)[k]?=some (p.av[k],aE[k]):=by grind
    have j:dU (cL F inl) e ((p.av.zip aE).take (k+1))=o++cL F inl (p.av[k],aE[k]):=by grind[dd,xz]
    have J:=xA (cL F inl) (p.av.zip aE) (k+1) e;rw[j,br]at J
    have hmr:d.length=o.length:=by grind
    have⟨q1,q2,q3,q4⟩:=ht aE[k] (getElem_mem S);have Xk:=wI k _ Q;generalize p.av[k]=f at *;generalize aE[k]=t at *
    have hz:(cL F inl (f,t)).length=f.name.length+(cE f.params).length+(ko F inl 0 t).length+9:=by unfold cL;simp;omega
    have hJ:=Me f.params V Xk
    have aa8:∀(l:List T)(a:T),a∈l->aU a<=aM l:=by
     intro l
     induction l with
     |nil=>simp
     |cons b l ih2 =>
      grind[aU,aM]
    have hB:=zj ex O F inl W t 0 V (by grind[Go.Xp.eP,Go.Xp.eI]) V fun a M Xc=>by
     have h1:=aa8 _ a M;have h2:=Go.Xp.eI t;have h3:=rS M;have h4:=kZ t;rw[vD,aI,qd,ea]at q1;rw[mY]at q2;exact Ie ex O F inl W _ a (aY _) (q1.2 a M) (gx q2.2 M) V (0+1) V Xc
    unfold aD at N;refine I ?_;refine aV (aL 0 7 (aL 10 5 (.a 7 (.q 8 (.q 9 (.a 15 (.q 16 (.q 17 (.a 18 (.q 19 .nil)))))))))) ?_;refine ax ?_;refine aP [] hJ ?_;refine aP [] hB ?_;refine OA rfl rfl (GL.BW (str:=cL F inl (f,t)) rfl rfl rfl aQ rfl V (GL.nil (bh (dL.mk zfe ?_))))
    refine PK ?_;refine bn ?_;exact⟨rfl,rfl,_,_,(Wk.cut (n:=3) (bp _) rfl).trans (Wk.aZ az),o++cL F inl (f,t),_,_,rfl,rfl,by grind,by grind,j.symm⟩
   ·clear G i;rintro _ _⟨o,m,d,rfl,rfl,G,i,C⟩;rw[Y,show(p.av.zip aE).take p.av.length=p.av.zip aE from ln zff]at C;rw[<-C]at E |-;refine bh ?_;refine GW.wk (Wk.jx (t:=9) rfl rfl rfl G) ?_
    have abC:d=o.map fun c=>[.v (.int .u8 (c.toNat:Int))]:=i
    exact aK
end Go.Xg
namespace Go.Xg
open Go.RowKit Go.Xw Go.Proofs Tryz
open GV (U)
open Go.Im (fG so sq tM ny oj)
attribute [local irreducible] GW GL GO YG GC GA bo bq
theorem Io(a b:List ab)(ha:a.length<=1099511627776)(m:b.length<=1099511627776):GF prog 130 [strs a,strs b] [] (.v (.bool (fG (fun x y=>x==y) a b))) []:=by
 have d:(a.map fun s=>[GV.v (sv s)]).length=a.length:=by simp
 have e:(b.map fun s=>[GV.v (sv s)]).length=b.length:=by simp
 by_cases M:a.length=b.length
 ·have T:(((a.map fun s=>[GV.v (sv s)]).length:Int) != ((b.map fun s=>[GV.v (sv s)]).length:Int))=false:=by grind
  refine au func130 ntmps130 ?_;refine GW.range (a.map fun s=>[GV.v (sv s)]).length (fun k J u=>J=[strs a,strs b,U,U,U,U,U,U,U,U,U,U,.v (ii ((a.map fun s=>[GV.v (sv s)]).length:Int)),.v (ii (k:Nat)),U,U,U,U,U,U,U,U,U,U,U,U]/\u=[]/\tM (fun x y=>x==y) a b k) ?_ V ?_ ?_ ?_
  ·exact zbn
  ·exact jA
  ·rintro k _ _ N⟨rfl,rfl,H⟩;rw[d]at N
   have t:a[k]?=some a[k]:=by simp[N]
   have Q:k<b.length:=by omega
   have z:b[k]?=some b[k]:=by simp
   have l:(a.map fun s=>[GV.v (sv s)])[k]?=some [GV.v (sv a[k])]:=by grind
   have E:(b.map fun s=>[GV.v (sv s)])[k]?=some [GV.v (sv b[k])]:=by grind
   generalize a[k]=x at *;generalize b[k]=y at *
   cases o:(x==y)with
   |true =>
    have i:(x != y)=false:=by grind
    have c:(!(x==y))=false:=by grind
    refine zcY ?_;exact zcn
   |false =>
    have i:(x != y)=true:=by grind
    have c:(!(x==y))=true:=by grind
    rw[sq t z (p:=fun x y=>x==y) o];refine zcY ?_;exact zbv
  ·rintro _ _⟨rfl,rfl,H⟩;rw[d]at H;rw[oj M H];exact aK
 ·have T:(((a.map fun s=>[GV.v (sv s)]).length:Int) != ((b.map fun s=>[GV.v (sv s)]).length:Int))=true:=by grind
  rw[so M];refine au func130 ntmps130 ?_;exact ay
theorem Il(a b:List Int)(ha:a.length<=1099511627776)(m:b.length<=1099511627776):GF prog 41 [ints a,ints b] [] (.v (.bool (fG (fun x y=>x==y) a b))) []:=by
 have d:(a.map fun s=>[GV.v (ii s)]).length=a.length:=by simp
 have e:(b.map fun s=>[GV.v (ii s)]).length=b.length:=by simp
 by_cases M:a.length=b.length
 ·have T:(((a.map fun s=>[GV.v (ii s)]).length:Int) != ((b.map fun s=>[GV.v (ii s)]).length:Int))=false:=by grind
  refine au func41 ntmps41 ?_;refine GW.range (a.map fun s=>[GV.v (ii s)]).length (fun k J u=>J=[ints a,ints b,U,U,U,U,U,U,U,U,U,U,.v (ii ((a.map fun s=>[GV.v (ii s)]).length:Int)),.v (ii (k:Nat)),U,U,U,U,U,U,U,U,U,U,U,U]/\u=[]/\tM (fun x y=>x==y) a b k) ?_ V ?_ ?_ ?_
  ·exact zbn
  ·exact jA
  ·rintro k _ _ N⟨rfl,rfl,H⟩;rw[d]at N
   have t:a[k]?=some a[k]:=by simp[N]
   have Q:k<b.length:=by omega
   have z:b[k]?=some b[k]:=by simp
   have l:(a.map fun s=>[GV.v (ii s)])[k]?=some [GV.v (ii a[k])]:=by simp
   have E:(b.map fun s=>[GV.v (ii s)])[k]?=some [GV.v (ii b[k])]:=by simp
   generalize a[k]=x at *;generalize b[k]=y at *
   cases o:(x==y)with
   |true =>
    have i:(x != y)=false:=by grind
    have c:(!(x==y))=false:=by grind
    refine zcY ?_;exact zcn
   |false =>
    have i:(x != y)=true:=by grind
    have c:(!(x==y))=true:=by grind
    rw[sq t z (p:=fun x y=>x==y) o];refine zcY ?_;refine bn ?_;refine bB ?_
    grind[bD]
  ·rintro _ _⟨rfl,rfl,H⟩;rw[d]at H;rw[oj M H];refine zbb ?_
   grind[bD]
 ·have T:(((a.map fun s=>[GV.v (ii s)]).length:Int) != ((b.map fun s=>[GV.v (ii s)]).length:Int))=true:=by grind
  rw[so M];refine au func41 ntmps41 ?_;refine bB ?_
  grind[bD]
open Go.Xp (Nd)
open Go.Im (r6 lh)
theorem RL(a b:Go.Sp.Fn)(ha:a.params.length<=1099511627776)(i:b.params.length<=1099511627776):GF prog 133 [.agg (aD a),.agg (aD b)] [] (.v (.bool (r6 a b))) []:=by
 have e:=Io a.params b.params ha i;unfold r6 aD
 cases o:(a.name==b.name)with
 |false =>
  refine au func133 ntmps133 ?_;exact ay
 |true =>
  cases c:fG (fun x y=>x==y) a.params b.params with
  |false =>
   rw[c]at e;refine au func133 ntmps133 ?_;exact zde
  |true =>
   rw[c]at e;refine au func133 ntmps133 ?_;exact zde
theorem LQ(a b:Nd)(ha:a.aw.length<=1099511627776)(i:b.aw.length<=1099511627776):GF prog 135 [.agg (aN a),.agg (aN b)] [] (.v (.bool (lh a b))) []:=by
 have e:=Il a.aw b.aw ha i;unfold lh aN;generalize fG (fun x y=>x==y) a.aw b.aw=q at *
 cases o:(a.ai==b.ai)with
 |false =>
  exact zej
 |true =>
  cases c:(a.n==b.n)with
  |false =>
   exact zej
  |true =>
   cases G:(a.s==b.s)with
   |false =>
    exact zej
   |true =>
    refine au func135 ntmps135 ?_;exact zde
theorem Hz(a b:List Go.Sp.Fn)(ha:a.length<=1099511627776)(i:b.length<=1099511627776)(X:∀x∈a,x.params.length<=1099511627776)(F:∀x∈b,x.params.length<=1099511627776) :
  GF prog 132 [.sl 3 (a.map aD),.sl 3 (b.map aD),.v (.func (.func 133) #[] #[])] [] (.v (.bool (fG r6 a b))) []:=by
 have d:(a.map aD).length=a.length:=by simp
 have e:(b.map aD).length=b.length:=by simp
 by_cases M:a.length=b.length
 ·have T:(((a.map aD).length:Int) != ((b.map aD).length:Int))=false:=by grind
  refine au func132 ntmps132 ?_;refine GW.range (a.map aD).length (fun k J u=>J=U::.sl 3 (b.map aD)::.v (.func (.func 133) #[] #[])::zU 12 (.sl 3 (a.map aD)::.v (ii ((a.map aD).length:Int))::.v (ii (k:Nat))::zU 14 [])/\u=[]/\tM r6 a b k) ?_ V ?_ ?_ ?_
  ·exact zbn
  ·exact jA
  ·rintro k _ _ N⟨rfl,rfl,H⟩;rw[d]at N
   have t:a[k]?=some a[k]:=by simp[N]
   have Q:k<b.length:=by omega
   have z:b[k]?=some b[k]:=by simp
   have c:(a.map aD)[k]?=some (aD a[k]):=by grind
   have E:(b.map aD)[k]?=some (aD b[k]):=by grind
   have G:=RL a[k] b[k] (X _ (getElem_mem N)) (F _ (getElem_mem Q));generalize a[k]=x at *;generalize b[k]=y at *;unfold aD at c E G
   cases o:r6 x y with
   |true =>
    exact zb3
   |false =>
    rw[o]at G;rw[sq t z (p:=r6) o];refine I ?_;refine jW [] G ?_;exact aK
  ·rintro _ _⟨rfl,rfl,H⟩;rw[d]at H;rw[oj M H];exact aK
 ·have T:(((a.map aD).length:Int) != ((b.map aD).length:Int))=true:=by grind
  rw[so M];refine au func132 ntmps132 ?_;exact ay
theorem HA(a b:List Nd)(ha:a.length<=1099511627776)(i:b.length<=1099511627776)(X:∀x∈a,x.aw.length<=1099511627776)(F:∀x∈b,x.aw.length<=1099511627776) :
  GF prog 134 [.sl 5 (a.map aN),.sl 5 (b.map aN),.v (.func (.func 135) #[] #[])] [] (.v (.bool (fG lh a b))) []:=by
 have d:(a.map aN).length=a.length:=by simp
 have e:(b.map aN).length=b.length:=by simp
 by_cases M:a.length=b.length
 ·have T:(((a.map aN).length:Int) != ((b.map aN).length:Int))=false:=by grind
  refine au func134 ntmps134 ?_;refine GW.range (a.map aN).length (fun k J u=>J=U::.sl 5 (b.map aN)::.v (.func (.func 135) #[] #[])::zU 12 (.sl 5 (a.map aN)::.v (ii ((a.map aN).length:Int))::.v (ii (k:Nat))::zU 14 [])/\u=[]/\tM lh a b k) ?_ V ?_ ?_ ?_
  ·exact zbn
  ·exact jA
  ·rintro k _ _ N⟨rfl,rfl,H⟩;rw[d]at N
   have t:a[k]?=some a[k]:=by simp[N]
   have Q:k<b.length:=by omega
   have z:b[k]?=some b[k]:=by simp
   have c:(a.map aN)[k]?=some (aN a[k]):=by grind
   have E:(b.map aN)[k]?=some (aN b[k]):=by grind
   have G:=LQ a[k] b[k] (X _ (getElem_mem N)) (F _ (getElem_mem Q));generalize a[k]=x at *;generalize b[k]=y at *;unfold aN at c E G
   cases o:lh x y with
   |true =>
    exact zb3
   |false =>
    rw[o]at G;rw[sq t z (p:=lh) o];refine I ?_;refine jW [] G ?_;exact aK
  ·rintro _ _⟨rfl,rfl,H⟩;rw[d]at H;rw[oj M H];exact aK
 ·have T:(((a.map aN).length:Int) != ((b.map aN).length:Int))=true:=by grind
  rw[so M];refine au func134 ntmps134 ?_;exact ay
end Go.Xg
namespace Go.Xg
open Go.RowKit Go.Xw Go.Proofs Tryz
open GV (U)
open Go.Xp (Ar)
open Go.Im (zk fG so sq tM ny oj)
theorem Zn(w:World)(s s':ab)(n o:Int):(Op.equalIn 10000 79 (.agg #[sv s,ii n]) (.agg #[sv s',ii o])).run prog w=.ok ((s==s')&&(n==o)) w:=by
 have l:(prog.fieldsOf 79).toList=[(prog.fieldsOf 79)[0]!,(prog.fieldsOf 79)[1]!]:=by kernel_rfl
 have X:((prog.fieldsOf 79)[0]!).type=9:=by kernel_rfl
 have a1:((prog.fieldsOf 79)[1]!).type=3:=by kernel_rfl
 have S:((prog.fieldsOf 79)[0]!).offset=0:=by kernel_rfl
 have m:((prog.fieldsOf 79)[1]!).offset=1:=by kernel_rfl
 have c:((prog.fieldsOf 79)[0]!).name = "Name" := by kernel_rfl
 have u:((prog.fieldsOf 79)[1]!).name = "Size" := by kernel_rfl
 rw[show(10000:Nat)=9999+1 from rfl,run_equalIn_agg w 9999 _ _ _ (by kernel_rfl) (by kernel_rfl),l];generalize(prog.fieldsOf 79)[0]! = r at *;generalize(prog.fieldsOf 79)[1]! = cL at *
 have G:prog.underlying 9=some .string:=by kernel_rfl
 have i:prog.underlying 3=some (.int .i64):=by kernel_rfl
 have A:∀(a:ab)(b:Int)w,(part r.type #[sv a,ii b] r.offset).run prog w=.ok (sv a) w:=fun a b w=>by
  rw[X,S];rfl
 have H:∀(a:ab)(b:Int)w,(part cL.type #[sv a,ii b] cL.offset).run prog w=.ok (ii b) w:=fun a b w=>by
  rw[a1,m];rfl
 have Z:∀w,(Op.equalIn 9999 r.type (sv s) (sv s')).run prog w=.ok (s==s') w:=fun w=>by
  rw[X,show(9999:Nat)=9998+1 from rfl];have:=run_equalIn_string (P:=prog) w 9998 9 ⟨s.toArray⟩ ⟨s'.toArray⟩ G;rw[show sv s=.string ⟨s.toArray⟩from rfl,show sv s'=.string ⟨s'.toArray⟩from rfl,this];simp
 have z:∀w,(Op.equalIn 9999 cL.type (ii n) (ii o)).run prog w=.ok (n==o) w:=fun w=>by
  rw[a1,show(9999:Nat)=9998+1 from rfl];exact run_equalIn_int (P:=prog) w 9998 3 .i64 .i64 n o i
 have q:r.name ≠ "_" := by grind
 have t:cL.name ≠ "_" := by grind
 rw[Op.eqFields,ak q];simp only[Sem.run_bind,A,Result.andThen_ok,Z]
 cases s==s' with
 |false=>simp
 |true =>
  simp only[Bool.not_true,Bool.false_eq_true,if_false,Bool.true_and];rw[Op.eqFields,ak t];simp only[Sem.run_bind,H,Result.andThen_ok,z]
  cases n==o with
  |false=>simp
  |true=>rfl
theorem YG.X7{fr:am}{Γ:ap}{x y:Operand}{k:TypeId}{s s':ab}{n o:Int}(hx:bf fr x=.agg [.v (sv s),.v (ii n)])(C:bf fr y=.agg [.v (sv s'),.v (ii o)]) :
  YG prog (.binOp .neq 79 x y k) fr Γ (.v (.bool (!((s==s')&&(n==o))))):=fun B K u w l i O=>by
 have E:∀{v:Value}{a b:Value},Rel K u v (.agg [.v a,.v b])->v=.agg #[a,b]:=fun{v a b}h=>by
  cases h with
  |agg t _ M W =>
   match t,M with
   |[r,q],_ =>
    have A:=Rel.eW (W 0 r (.v a) rfl rfl);have e:=Rel.eW (W 1 q (.v b) rfl rfl)
    grind
 have m:=E (by rw[<-hx];exact O.ev x);have Y:=E (by rw[<-C];exact O.ev y);refine⟨_,fun d F G z=>?_,.v _⟩;have X:=run_eqGuard_agg (P:=prog) w .neq 79 x y #[sv s,ii n] #[sv s',ii o] (by kernel_rfl);have c:=run_neq_struct (P:=prog) w 79 #[sv s,ii n] #[sv s',ii o];rw[Zn,Result.andThen_ok]at c;simp[execOp,m,Y,X,c]
attribute [local irreducible] GW GL GO YG GC GA bo bq
theorem T7(a b:List Ar)(ha:a.length<=1099511627776)(l:b.length<=1099511627776):GF prog 131 [(.sl 2 (a.map fun s=>aW s)),(.sl 2 (b.map fun s=>aW s))] [] (.v (.bool (fG zk a b))) []:=by
 have d:(a.map fun s=>aW s).length=a.length:=by simp
 have i:(b.map fun s=>aW s).length=b.length:=by simp
 by_cases M:a.length=b.length
 ·have T:(((a.map fun s=>aW s).length:Int) != ((b.map fun s=>aW s).length:Int))=false:=by grind
  refine au func131 ntmps131 ?_;refine GW.range (a.map fun s=>aW s).length (fun k J u=>J=(.sl 2 (a.map fun s=>aW s))::(.sl 2 (b.map fun s=>aW s))::U::U::U::U::U::U::U::U::U::U::.v (ii ((a.map fun s=>aW s).length:Int))::.v (ii (k:Nat))::zU 12 []/\u=[]/\tM zk a b k) ?_ V ?_ ?_ ?_
  ·exact zbn
  ·exact jA
  ·rintro k _ _ N⟨rfl,rfl,H⟩;rw[d]at N
   have t:a[k]?=some a[k]:=by simp[N]
   have Q:k<b.length:=by omega
   have z:b[k]?=some b[k]:=by simp
   have e:(a.map fun s=>aW s)[k]?=some (aW a[k]):=by grind
   have E:(b.map fun s=>aW s)[k]?=some (aW b[k]):=by grind
   generalize a[k]=x at *;generalize b[k]=y at *;unfold aW at e E
   cases o:zk x y with
   |true =>
    have c:(!((x.name==y.name)&&(x.size==y.size)))=false:=by grind[zk]
    refine zcY ?_;refine ax ?_;apply OP
    ·exact rfl
    ·intro u;exact YG.X7 rfl rfl
    refine jj ?_;exact zcn
   |false =>
    have c:(!((x.name==y.name)&&(x.size==y.size)))=true:=by grind[zk]
    rw[sq t z (p:=zk) o];refine zcY ?_;refine ax ?_;apply OP
    ·exact rfl
    ·intro u;exact YG.X7 rfl rfl
    refine jj ?_;exact zbv
  ·rintro _ _⟨rfl,rfl,H⟩;rw[d]at H;rw[oj M H];refine zbb ?_
   grind[bD]
 ·have T:(((a.map fun s=>aW s).length:Int) != ((b.map fun s=>aW s).length:Int))=true:=by grind
  rw[so M];refine au func131 ntmps131 ?_;refine bB ?_
  grind[bD]
end Go.Xg
set_option maxHeartbeats 1000000
namespace Go.Xg
open Go.RowKit Go.Xw Go.Proofs Tryz Go.Sp Go.Im
open GV (U)
open Go.Xp (T one levels)
attribute [local irreducible] GW GL GO YG GC GA bo bq
structure Ip(f:Nat):Prop where
 expr:∀d p t q x,p.ok->d+f<=1099511627776->iE f (.expr d) p=some (t,q)->GF prog 354 [.loc 0 0,.v (ii (d:Nat))] [cP p x] (qT t) [cP q x]
 level:∀k d p t q x,p.ok->k<=9->d+f<=1099511627776->iE f (.level k d) p=some (t,q)->GF prog 372 [.loc 0 0,.v (ii (k:Nat)),.v (ii (d:Nat))] [cP p x] (qT t) [cP q x]
 operand:∀d p t q x,p.ok->d+f<=1099511627776->iE f (.operand d) p=some (t,q)->GF prog 379 [.loc 0 0,.v (ii (d:Nat))] [cP p x] (qT t) [cP q x]
 exprs:∀d p l q x,p.ok->d+f<=1099511627776->iA f d [] p=some (l,q)->GF prog 381 [.loc 0 0,.v (ii (d:Nat))] [cP p x] (.sl 1 (lP l)) [cP q x]
theorem Hw:GF prog 315 [.v (ii 0),.v (ii 0),.v (sv []),.sl 1 []] [] (qT T.zero) []:=fM 0 0 [] [] [] rfl
theorem Wx{f:Nat}(C:Ip f)(d:Nat)(p:RS)(t:T)(q:RS)(x:PX)(X:p.ok)(hd:d+(f+1)<=1099511627776)(h:iE (f+1) (.expr d) p=some (t,q)) :
  GF prog 354 [.loc 0 0,.v (ii (d:Nat))] [cP p x] (qT t) [cP q x]:=by
 rw[iE]at h;have Z:=wA p d x X
 by_cases W:(cV p d).code=0
 ·have u:((cV p d).code==0)=true:=by grind
  rw[ak W]at h;rw[u]at Z;rw[pG W]at h Z;have M:=C.level 0 (d+1) p t q x X V V h;refine au func354 ntmps354 ?_;refine D [0] Z ?_;exact zdO
 ·have u:((cV p d).code==0)=false:=by grind
  rw[ae W]at h;rw[u]at Z;cases h;refine au func354 ntmps354 ?_;refine D [0] Z ?_;refine D [] Hw ?_;exact ay
theorem UW{f:Nat}(C:∀Q,Q<=f->Ip Q)(k d:Nat)(p:RS)(t:T)(q:RS)(x:PX)(e:p.ok)(G:k<=9)(hd:d+(f+1)<=1099511627776)(h:iE (f+1) (.level k d) p=some (t,q)) :
  GF prog 372 [.loc 0 0,.v (ii (k:Nat)),.v (ii (d:Nat))] [cP p x] (qT t) [cP q x]:=by
 rw[iE]at h
 by_cases o:k=9
 ·subst o;rw[ak rfl]at h;have ho:=(C f (aY _)).operand d p t q x e V h;refine au func372 ntmps372 ?_;refine D [] tR ?_;refine D [0] ho ?_;exact ay
 ·rw[ae o]at h
  have W:((k:Int)==9)=false:=by grind
  cases u:iE f (.level (k+1) d) p with
  |none=>grind
  |some r =>
   have⟨out,Y⟩:=r;rw[u]at h;simp only at h;have N:=((ku f).1 _ _ _ _ e u).ok e;have X:=(C f (aY _)).level (k+1) d p out Y x e V V u;refine au func372 ntmps372 ?_;refine D [] tR ?_;refine D [0] X ?_;refine GW.loop (fun z:Nat × T × RS=>z.1) (fun z fr Γ=>fr=.loc 0 0::.v (ii (k:Nat))::.v (ii (d:Nat))::U::U::U::U::qT z.2.1::zU 56 []/\Γ=[cP z.2.2 x]/\z.2.2.ok/\z.1<=f/\iE z.1 (.loop k d z.2.1) z.2.2=some (t,q)) (f,out,Y) ?_ ?_
   ·exact⟨_,_,Wk.aZ az,rfl,rfl,N,aY _,h⟩
   ·clear h u X;rintro⟨g,out,p⟩_ _⟨rfl,rfl,e,E,h⟩;simp only at e E h
    cases g with
    |zero=>simp[iE]at h
    |succ g =>
    rw[iE]at h
    have G:k<9:=by omega
    have m:=r8 p 0 x e aR
    by_cases S:p.code=0
    ·have B:(p.code==0)=true:=by grind
     by_cases R:(tok p 0).ai=3
     ·have w:((tok p 0).ai==3)=true:=by grind
      have AV:=Jx G;have c:=iL (levels.getD k []) (tok p 0).s (Ct k G)
      by_cases hit:(levels.getD k []).contains (tok p 0).s=true
      ·rw[ak ⟨S,R,hit⟩]at h;rw[hit]at c;have J:p.i<p.l.length:=sE (k:=0) V;have vz:=e.2
       cases A:iE g (.level (k+1) d) p.next with
       |none=>grind
       |some r =>
        have⟨b,Z⟩:=r;rw[A]at h;simp only at h;have j:=(cY J).ok e;have O:=((ku g).1 _ _ _ _ j A).ok j
        have H:=(C g V).level (k+1) d p.next b Z x j V V A
        generalize tok p 0=tk at *;have M:=fM 6 tk.at_ tk.s [out,b] [[qT out],[qT b]] (ja _);refine zeH ?_;refine I ?_;refine D [0] m ?_;refine aV (aL 0 9 (.a 9 (.a 10 (.a 11 (.q 12 .nil))))) ?_;refine ax ?_;refine aP [0] H ?_;refine zap ?_;refine aP [] M ?_;refine I ?_;exact⟨(g,one 6 tk.at_ tk.s [out,b],Z),⟨_,_,(Wk.cut (n:=1) (ek rfl) rfl).trans (Wk.aZ az),rfl,rfl,O,by omega,h⟩,by simp⟩
      ·have hit:(levels.getD k []).contains (tok p 0).s=false:=by grind
       rw[ae zff]at h
       obtain⟨rfl,rfl⟩:out=t/\p=q:=by grind
       rw[hit]at c;generalize tok p 0=tk at *;refine zeH ?_;exact zc4
     ·have w:((tok p 0).ai==3)=false:=by grind
      rw[ae (fun F=>R F.2.1)]at h
      obtain⟨rfl,rfl⟩:out=t/\p=q:=by grind
      generalize tok p 0=tk at *;refine zaI ?_;refine ax ?_;refine cH [0] m ?_;exact zc4
    ·have B:(p.code==0)=false:=by grind
     rw[ae (fun F=>S F.1)]at h
     obtain⟨rfl,rfl⟩:out=t/\p=q:=by grind
     refine zaI ?_;refine bn ?_;refine jE ?_;exact aK
theorem Ux{f:Nat}(C:∀Z,Z<=f->Ip Z)(d:Nat)(p:RS)(l:List T)(q:RS)(x:PX)(X:p.ok)(hd:d+(f+1)<=1099511627776)(h:iA (f+1) d [] p=some (l,q)) :
  GF prog 381 [.loc 0 0,.v (ii (d:Nat))] [cP p x] (.sl 1 (lP l)) [cP q x]:=by
 refine au func381 ntmps381 ?_;refine GW.wk (Wk.Cz (t:=5) (a:=none) (c:=0) 132 1 rfl) ?_;refine GW.loop (fun z:Nat × List T × RS=>z.1) (fun z M F=>∃n H,M=.loc 0 0::.v (ii (d:Nat))::U::U::U::.vec 1 n::zU 26 []/\F=[cP z.2.2 x,.vec 132 1 0 H]/\H.length=n/\H=lP z.2.1/\n+z.1<=f+1/\z.2.2.ok/\iA z.1 d z.2.1 z.2.2=some (l,q)) (f+1,[],p) ?_ ?_
 ·exact⟨_,_,Wk.aZ az,0,[],rfl,rfl,rfl,rfl,by simp,X,h⟩
 ·clear h X;rintro⟨g,W,p⟩_ _⟨n,H,rfl,rfl,k,R,B,X,h⟩;simp only at R B X h
  cases g with
  |zero=>simp[iA]at h
  |succ g =>
  rw[iA]at h;have j:=lD p 0 [41] x X aR
  have A:W.length=n:=by grind[nW]
  by_cases b:p.code=0
  ·have u:(p.code==0)=true:=by grind
   cases J:is p 0 [41]with
   |true =>
    rw[J]at j;rw[ae (fun E=>by grind)]at h
    obtain⟨rfl,rfl⟩:W=l/\want p [41]=q:=by grind
    have m:=gg p [41] x X;subst R;refine I ?_;refine D [0] j ?_;refine jE ?_;refine I ?_;exact zdo
   |false =>
    rw[J]at j;rw[ak ⟨b,J⟩]at h
    by_cases w:W.length=0
    ·rw[ak w]at h
     have s:decide ((0:Int)<(n:Int))=false:=by grind
     cases i:iE g (.expr d) p with
     |none=>grind
     |some r =>
      have⟨a,Y⟩:=r;rw[i]at h;simp only at h;have G:=((ku g).1 _ _ _ _ X i).ok X;have o:=(C g V).expr d p a Y x X V i;refine I ?_;refine D [0] j ?_;exact zcd
    ·rw[ae w]at h
     have s:decide ((0:Int)<(n:Int))=true:=by grind
     have e:=(dr X [44]).ok X;have m:=gg p [44] x X
     cases i:iE g (.expr d) (want p [44])with
     |none=>grind
     |some r =>
      have⟨a,Y⟩:=r;rw[i]at h;simp only at h;have G:=((ku g).1 _ _ _ _ e i).ok e;have o:=(C g V).expr d _ a Y x e V i;refine I ?_;refine D [0] j ?_;refine zac ?_;refine D [0] m ?_;exact zcd
  ·have u:(p.code==0)=false:=by grind
   rw[ae (fun E=>b E.1)]at h
   obtain⟨rfl,rfl⟩:W=l/\want p [41]=q:=by grind
   have m:=gg p [41] x X;subst R;refine zb4 ?_;exact zdo
theorem OY{f:Nat}(C:Ip f)(d:Nat)(p:RS)(t:T)(q:RS)(x:PX)(w:p.ok)(hd:d+(f+1)<=1099511627776)(h:iE (f+1) (.operand d) p=some (t,q)) :
  GF prog 379 [.loc 0 0,.v (ii (d:Nat))] [cP p x] (qT t) [cP q x]:=by
 rw[iE]at h;have j:=wA p d x w;have E:=r8 p 0 x w aR
 by_cases hc:(cV p d).code=0
 case neg =>
  have G:((cV p d).code==0)=false:=by grind
  rw[ae hc]at h;rw[G]at j;cases h;refine au func379 ntmps379 ?_;refine D [0] E ?_;refine D [0] j ?_;refine D [] Hw ?_;exact ay
 case pos =>
 have G:((cV p d).code==0)=true:=by grind
 rw[ak hc]at h;rw[G,pG hc]at j;clear hc G;have A:=lD p 0 [45] x w aR;have B:=lD p 0 [33] x w aR;have F:=lD p 0 [126] x w aR;have vz:=w.2;have Te:=w.1
 cases H:is p 0 [45]with
 |true =>
  rw[H]at A;rw[ak (.inl H)]at h;have m:p.i<p.l.length:=is_lt (k:=0) H;have c:=(cY m).ok w
  cases o:iE f (.operand (d+1)) p.next with
  |none=>grind
  |some r =>
   have⟨b,R⟩:=r;rw[o]at h;cases h
   have n:=C.operand (d+1) p.next b _ x c V o
   generalize tok p 0=tk at *;have e:=fM 5 tk.at_ tk.s [b] [[qT b]] (ja _);refine au func379 ntmps379 ?_;refine D [0] E ?_;refine D [0] j ?_;refine D [0] A ?_;exact zaW
 |false =>
 rw[H]at A
 cases J:is p 0 [33]with
 |true =>
  rw[J]at B;rw[ak (.inr (.inl J))]at h;have m:p.i<p.l.length:=is_lt (k:=0) J;have c:=(cY m).ok w
  cases o:iE f (.operand (d+1)) p.next with
  |none=>grind
  |some r =>
   have⟨b,R⟩:=r;rw[o]at h;cases h
   have n:=C.operand (d+1) p.next b _ x c V o
   generalize tok p 0=tk at *;have e:=fM 5 tk.at_ tk.s [b] [[qT b]] (ja _);refine au func379 ntmps379 ?_;refine D [0] E ?_;refine D [0] j ?_;refine D [0] A ?_;refine D [0] B ?_;exact zaW
 |false =>
 rw[J]at B
 cases M:is p 0 [126]with
 |true =>
  rw[M]at F;rw[ak (.inr (.inr M))]at h;have m:p.i<p.l.length:=is_lt (k:=0) M;have c:=(cY m).ok w
  cases o:iE f (.operand (d+1)) p.next with
  |none=>grind
  |some r =>
   have⟨b,R⟩:=r;rw[o]at h;cases h
   have n:=C.operand (d+1) p.next b _ x c V o
   generalize tok p 0=tk at *;have e:=fM 5 tk.at_ tk.s [b] [[qT b]] (ja _);refine au func379 ntmps379 ?_;refine zat ?_;exact zaW
 |false =>
 rw[M]at F;rw[ae zff]at h
 by_cases hk:(tok p 0).ai=1
 case pos =>
  rw[ak hk]at h;have m:p.i<p.l.length:=sE (k:=0) V
  have S8:((tok p 0).ai==1)=true:=by grind
  cases h;generalize tok p 0=tk at *;have e:=OM 1 tk.at_ [] [];refine au func379 ntmps379 ?_;refine zat ?_;refine D [] e ?_;refine GW.wk (Wk.freeze (i:=2) rfl rfl rfl (ek rfl)) ?_;exact ay
 case neg =>
 rw[ae hk]at h
 have S8:((tok p 0).ai==1)=false:=by grind
 have S:=lD p 0 [40] x w aR
 cases N:is p 0 [40]with
 |true =>
  rw[N]at S;rw[ak N]at h;have m:p.i<p.l.length:=is_lt (k:=0) N;have c:=(cY m).ok w
  cases o:iE f (.expr (d+1)) p.next with
  |none=>grind
  |some r =>
   have⟨b,R⟩:=r;rw[o]at h;cases h;have W:=((ku f).1 _ _ _ _ c o).ok c
   have n:=C.expr (d+1) p.next _ R x c V o
   have hw:=gg R [41] x W;generalize tok p 0=tk at *;refine au func379 ntmps379 ?_;refine zat ?_;refine D [0] S ?_;refine D [0] n ?_;refine zac ?_;refine D [0] hw ?_;exact ay
 |false =>
 rw[N]at S;rw[ae zff]at h;have hn:=rG p x w;have c:=(jz w).ok w
 by_cases Y:(cv p).code=0
 case neg =>
  rw[ae Y]at h
  have Z:((cv p).code != 0)=true:=by grind
  cases h;generalize tok p 0=tk at *;generalize cv p=z at *;have e:=fM 2 tk.at_ tk.s [] [] rfl;refine au func379 ntmps379 ?_;refine zdv ?_;exact zde
 case pos =>
 rw[ak Y]at h
 have Z:((cv p).code != 0)=false:=by grind
 generalize cv p=z at *;generalize tok p 0=tk at *;have X:=lD z 0 [91] x c aR;have ab1:=c.2;have ab0:=c.1
 cases O:is z 0 [91]with
 |true =>
  rw[O]at X;rw[ak O]at h;have m:z.i<z.l.length:=is_lt (k:=0) O;have u:=(cY m).ok c
  cases o:iE f (.expr (d+1)) z.next with
  |none=>grind
  |some r =>
   have⟨b,R⟩:=r;rw[o]at h;cases h;have W:=((ku f).1 _ _ _ _ u o).ok u
   have n:=C.expr (d+1) z.next b R x u V o
   have hw:=gg R [93] x W;have e:=fM 3 tk.at_ tk.s [b] [[qT b]] (ja _);refine au func379 ntmps379 ?_;refine zdv ?_;refine D [0] X ?_;refine D [0] n ?_;refine zac ?_;refine D [0] hw ?_;refine zac ?_;exact zde
 |false =>
 rw[O]at X;rw[ae zff]at h;have h6:=lD z 0 [40] x c aR
 cases Q:is z 0 [40]with
 |true =>
  rw[Q]at h6;rw[ak Q]at h;have m:z.i<z.l.length:=is_lt (k:=0) Q;have u:=(cY m).ok c
  cases o:iA f (d+1) [] z.next with
  |none=>grind
  |some r =>
   have⟨b,R⟩:=r;rw[o]at h;cases h
   have n:=C.exprs (d+1) z.next b _ x u V o
   have e:=fM 4 tk.at_ tk.s b (lP b) rfl;refine au func379 ntmps379 ?_;refine zdv ?_;refine D [0] X ?_;refine D [0] h6 ?_;refine aV (aL 0 6 (.a 6 (.a 7 (.q 8 .nil)))) ?_;refine ax ?_;refine aP [0] n ?_;refine aP [] e ?_;exact aK
 |false =>
  rw[Q]at h6;rw[ae zff]at h;cases h;have e:=fM 2 tk.at_ tk.s [] [] rfl;refine au func379 ntmps379 ?_;refine zdv ?_;refine D [0] X ?_;refine D [0] h6 ?_;exact zde
theorem ies(f:Nat):Ip f:=by
 induction f using Nat.strongRecOn with
 |_ f O =>
  cases f with
  |zero=>exact⟨fun d p t q x _ _ h=>by simp[iE]at h,fun k d p t q x _ _ _ h=>by simp[iE]at h,fun d p t q x _ _ h=>by simp[iE]at h,fun d p l q x _ _ h=>by simp[iA]at h⟩
  |succ f =>
   have C:=O f (Nat.lt_succ_self f)
   have m:∀Z,Z<=f->Ip Z:=fun Z h=>O Z (Nat.lt_succ_of_le h)
   exact⟨fun d p t q x W T h=>Wx C d p t q x W T h,fun k d p t q x W N T h=>UW m k d p t q x W N T h,fun d p t q x W T h=>OY C d p t q x W T h,fun d p l q x W T h=>Ux m d p l q x W T h⟩
end Go.Xg
namespace Go.Im
open Go.Xp Go.Sp
def Yz(f d:Nat)(p:RS):Option (T × RS) :=
 if(tok p 0).ai=2/\is p 1 [61]=true then match iE f (.expr (d+1)) (want (cv p) [61])with
  |none=>none
  |some (e,q)=>some (one 7 (tok p 0).at_ (tok p 0).s [e],want q [59])
 else match iE f (.expr (d+1)) p with
  |none=>none
  |some (e,q) =>
   if xa p q e then match e.aw,iE f (.expr (d+1)) (want q [61])with
    |a::_,some (v,q)=>some (one 8 (tok p 0).at_ e.n.s [a,v],want q [59])
    |_,_=>none
   else some (one 12 (tok p 0).at_ [] [e],want q [59])
end Go.Im
namespace Go.Xg
open Go.RowKit Go.Xw Go.Proofs Tryz Go.Sp Go.Im
open GV (U)
open Go.Xp (T one)
attribute [local irreducible] GW GL GO YG GC GA bo bq
theorem RY{f:Nat}(d:Nat)(p:RS)(t:T)(q:RS)(x:PX)(F:p.ok)(hd:d+1+f<=1099511627776)(h:Yz f d p=some (t,q)) :
  GF prog 355 [.loc 0 0,.v (ii (d:Nat))] [cP p x] (qT t) [cP q x]:=by
 unfold Yz at h;have C:=ies f;have ht:=r8 p 0 x F aR;have M:=lD p 1 [61] x F aR
 have Y:∀X,((tok p 0).ai==2)=X->(X=true->is p 1 [61]=false)->GF prog 355 [.loc 0 0,.v (ii (d:Nat))] [cP p x] (qT t) [cP q x]:=by
  intro X hk S
  rw[ae (fun hh=>by
   grind)]at h
  cases B:iE f (.expr (d+1)) p with
  |none=>rw[B]at h;cases h
  |some r =>
   have⟨e,b⟩:=r;rw[B]at h;simp only at h;have c:=((ku f).1 _ _ _ _ F B).ok F;have ab4:=c.1;have ab5:=c.2;have A:=C.expr (d+1) p e b x F V B;have E:=lD b 0 [61] x c aR
   have z:e.n.ai=3->b.code=0->∃j,b.l[b.i-1]?=some j/\uI b=j.s/\1<=b.i:=by
    intro _ hc;have h1:=XE f _ _ _ _ F B hc (fun k d out h=>by cases h);have h2:=c.1
    have W:b.i-1<b.l.length:=by omega
    exact⟨b.l[b.i-1],by simp[W],by unfold uI;simp[W],by omega⟩
   by_cases o:xa p b e
   ·rw[ak o]at h;have H:=o;have⟨O,Q,s3,s4,s5,s6⟩:=H;have⟨j,a1,a2,a3⟩:=z O Q
    have Tb:X=true:=by grind
    subst Tb;have u:=S rfl;rw[u]at M;rw[s6]at E
    match hks:e.aw,hv:iE f (.expr (d+1)) (want b [61]),h with
    |a::rk,some (v,q2),h =>
     cases h;have m:=(dr c [61]).ok c;have hq2:=((ku f).1 _ _ _ _ m hv).ok m;have N:=gg b [61] x c;have R:=C.expr (d+1) _ v q2 x m V hv;have J:=gg q2 [59] x hq2;have hr:=lA a1;have Ft:(lP e.aw)[0]?=some [qT a]:=Br zff;have hr3:(lP (a::rk))[0]?=some [qT a]:=Br rfl
     have Z:(e.n.ai==3)=true:=by grind
     have b2:(b.code==0)=true:=by grind
     have b3:(j.s==[93])=true:=by grind
     have b4:(e.n.at_==(tok p 0).at_)=true:=by grind
     have w:=fM 8 (tok p 0).at_ e.n.s [a,v] [[qT a],[qT v]] (ja _);generalize tok p 0=tk at *;refine au func355 ntmps355 ?_;refine D [0] ht ?_;refine D [0] M ?_;refine D [0] A ?_;refine aV (aL 0 45 (.a 45 (.q 46 .nil))) ?_;refine ax ?_;refine cH [0] E ?_;refine I ?_;refine zac ?_;refine D [0] N ?_;refine D [0] R ?_;refine zac ?_;refine D [0] J ?_;refine aV (aL 0 14 (.a 14 (.a 15 (.q 16 .nil)))) ?_;refine zdP ?_;refine aP [] w ?_;exact aK
    |[],_,h=>simp at h
    |_::_,none,h=>simp at h
   ·rw[ae o]at h;cases h;have N:=gg b [59] x c;have w:=fM 12 (tok p 0).at_ [] [e] [[qT e]] (ja _)
    cases X with
    |true =>
     have u:=S rfl;rw[u]at M;refine au func355 ntmps355 ?_;refine D [0] ht ?_;refine D [0] M ?_;refine D [0] A ?_;refine GW.join (fun fr Γ=>fr=.loc 0 0::.v (ii (d:Nat))::U::U::U::.loc 1 0::U::U::qT e::zU 78 (.v (.bool false)::zU 34 [])/\Γ=[cP b x,.box 205 (dp (tok p 0))]) ?_ ?_
     ·by_cases O:e.n.ai=3
      ·have Z:(e.n.ai==3)=true:=by grind
       by_cases Q:b.code=0
       ·have b2:(b.code==0)=true:=by grind
        have⟨j,a1,a2,a3⟩:=z O Q;have hr:=lA a1
        by_cases s3:uI b=[93]
        ·have b3:(j.s==[93])=true:=by grind
         by_cases s4:e.n.at_=(tok p 0).at_
         ·have b4:(e.n.at_==(tok p 0).at_)=true:=by grind
          have s6:is b 0 [61]=false:=by
           cases h6:is b 0 [61]with
           |false=>rfl
           |true=>exact absurd ⟨O,Q,s3,s4,by grind,h6⟩ o
          rw[s6]at E;generalize tok p 0=tk at *;refine aV (aL 0 45 (.a 45 (.q 46 .nil))) ?_;refine ax ?_;refine cH [0] E ?_;exact fq
         ·have b4:(e.n.at_==(tok p 0).at_)=false:=by grind
          exact zaf
        ·have b3:(j.s==[93])=false:=by grind
         exact zaf
       ·have b2:(b.code==0)=false:=by grind
        exact zaf
      ·have Z:(e.n.ai==3)=false:=by grind
       exact zaf
     ·rintro _ _⟨rfl,rfl⟩;exact zcu
    |false =>
     refine au func355 ntmps355 ?_;refine D [0] ht ?_;refine D [0] A ?_;refine GW.join (fun fr Γ=>fr=.loc 0 0::.v (ii (d:Nat))::U::U::U::.loc 1 0::U::U::qT e::zU 78 (.v (.bool false)::zU 34 [])/\Γ=[cP b x,.box 205 (dp (tok p 0))]) ?_ ?_
     ·by_cases O:e.n.ai=3
      ·have Z:(e.n.ai==3)=true:=by grind
       by_cases Q:b.code=0
       ·have b2:(b.code==0)=true:=by grind
        have⟨j,a1,a2,a3⟩:=z O Q;have hr:=lA a1
        by_cases s3:uI b=[93]
        ·have b3:(j.s==[93])=true:=by grind
         by_cases s4:e.n.at_=(tok p 0).at_
         ·have b4:(e.n.at_==(tok p 0).at_)=true:=by grind
          exact zaf
         ·have b4:(e.n.at_==(tok p 0).at_)=false:=by grind
          exact zaf
        ·have b3:(j.s==[93])=false:=by grind
         exact zaf
       ·have b2:(b.code==0)=false:=by grind
        exact zaf
      ·have Z:(e.n.ai==3)=false:=by grind
       exact zaf
     ·rintro _ _⟨rfl,rfl⟩;exact zcu
 by_cases hk:(tok p 0).ai=2
 ·cases u:is p 1 [61]with
  |true =>
   clear Y;rw[ak ⟨hk,u⟩]at h;rw[u]at M
   have S8:((tok p 0).ai==2)=true:=by grind
   have hn:=rG p x F;have G:=(jz F).ok F;have N:=gg (cv p) [61] x G;have m:=(dr G [61]).ok G
   cases B:iE f (.expr (d+1)) (want (cv p) [61])with
   |none=>grind
   |some r =>
    have⟨e,b⟩:=r;rw[B]at h;cases h;have c:=((ku f).1 _ _ _ _ m B).ok m;have A:=C.expr (d+1) _ e b x m V B;have J:=gg b [59] x c;have w:=fM 7 (tok p 0).at_ (tok p 0).s [e] [[qT e]] (ja _);generalize tok p 0=tk at *;refine au func355 ntmps355 ?_;refine D [0] ht ?_;refine D [0] M ?_;refine D [0] hn ?_;refine zac ?_;refine D [0] N ?_;refine D [0] A ?_;refine zac ?_;refine D [0] J ?_;refine zac ?_;refine D [] w ?_;exact ay
  |false=>grind
 grind
open Go.Xp (l7 gy iH gP gW)
theorem OL(k a:Int)(s:ab):GF prog 315 [.v (ii k),.v (ii a),.v (sv s),.v (.slice none 0 0)] [] (.loc 0 0) [.box 191 [.v (ii k),.v (ii a),.v (ii 0),.v (sv s),.v (.slice none 0 0),.v (.slice none 0 0)]]:=by
 refine au func315 ntmps315 ?_;refine GW.wk (Wk.cells 0 rfl (ds:=[.v (ii k),.v (ii a),.v (ii 0),.v (sv s),.v (.slice none 0 0),.v (.slice none 0 0)]) fJ) ?_;refine GW.ret ?_;refine qc (n:=1) rfl zfg rfl (bp _) rfl rfl ?_;exact zah
structure St(f:Nat):Prop where
 block:∀d p t q x,p.ok->d+3+f<=1099511627776->iS f (.block d) p=some (t,q)->GF prog 258 [.loc 0 0,.v (ii (d:Nat))] [cP p x] (qT t) [cP q x]
 stmt:∀d p t q x,p.ok->d+3+f<=1099511627776->iS f (.stmt d) p=some (t,q)->GF prog 317 [.loc 0 0,.v (ii (d:Nat))] [cP p x] (qT t) [cP q x]
theorem Uh{f:Nat}(C:∀b,b<=f->St b)(d:Nat)(p:RS)(t:T)(q:RS)(x:PX)(W:p.ok)(hd:d+3+(f+1)<=1099511627776)(h:iS (f+1) (.block d) p=some (t,q)) :
  GF prog 258 [.loc 0 0,.v (ii (d:Nat))] [cP p x] (qT t) [cP q x]:=by
 rw[iS]at h;have Z:=wA p d x W;have M:=r8 p 0 x W aR;have s:=OL 14 (tok p 0).at_ []
 by_cases Y:(cV p d).code=0
 case neg =>
  have u:((cV p d).code==0)=false:=by grind
  rw[ae Y]at h;rw[u]at Z;cases h;generalize tok p 0=tk at *;refine au func258 ntmps258 ?_;refine D [0] M ?_;refine D [] s ?_;refine D [0] Z ?_;refine GW.wk (Wk.cells 1 rfl (ds:=[.v (ii 14),.v (ii tk.at_),.v (ii 0),.v (sv []),.v (.slice none 0 0),.sl 1 []]) fJ) ?_;refine GW.wk (Wk.freeze (i:=1) rfl rfl rfl (ek rfl)) ?_;exact ay
 case pos =>
 have u:((cV p d).code==0)=true:=by grind
 rw[ak Y]at h;rw[u,pG Y]at Z;clear Y u;have e:=(dr W [123]).ok W;have m:=gg p [123] x W
 cases w:iB f (d+1) [] (want p [123])with
 |none=>grind
 |some r =>
  have⟨l,E⟩:=r;rw[w]at h;cases h;generalize tok p 0=tk at *;refine au func258 ntmps258 ?_;refine D [0] M ?_;refine D [] s ?_;refine D [0] Z ?_;refine zac ?_;refine D [0] m ?_;refine GW.wk (Wk.tV (i:=1) (o:=5) 132 1 rfl rfl) ?_;refine GW.loop (fun z:Nat × List T × RS=>z.1) (fun z O Q=>∃n H,O=.loc 0 0::.v (ii (d:Nat))::U::U::U::.loc 1 0::zU 39 []/\Q=[cP z.2.2 x,.box 191 [.v (ii 14),.v (ii tk.at_),.v (ii 0),.v (sv []),.v (.slice none 0 0),.vec 2 n],.vec 132 1 0 H]/\H.length=n/\H=lP z.2.1/\n+z.1<=f/\z.2.2.ok/\iB z.1 (d+1) z.2.1 z.2.2=some (l,E)) (f,[],want p [123]) ?_ ?_
  ·exact⟨_,_,Wk.aZ az,0,[],rfl,rfl,rfl,rfl,by simp,e,w⟩
  ·clear w e m Z M;rintro⟨g,X,p⟩_ _⟨n,H,rfl,rfl,c,R,B,W,h⟩;simp only at R B W h
   cases g with
   |zero=>simp[iB]at h
   |succ g =>
   rw[iB]at h;have j:=lD p 0 [125] x W aR
   by_cases Y:p.code=0
   ·have u:(p.code==0)=true:=by grind
    cases J:is p 0 [125]with
    |true =>
     rw[J]at j;rw[ae (fun F=>by grind)]at h
     obtain⟨rfl,rfl⟩:X=l/\p=E:=by grind
     have m:=gg p [125] x W;subst R;refine I ?_;refine D [0] j ?_;refine jE ?_;exact zbK
    |false =>
     rw[J]at j;rw[ak ⟨Y,J⟩]at h
     cases k:iS g (.stmt (d+1)) p with
     |none=>grind
     |some r =>
      have⟨a,N⟩:=r;rw[k]at h;simp only at h;have G:=((En g).1 _ _ _ _ W k).ok W;have A:=(C g V).stmt (d+1) p a N x W V k;refine I ?_;refine D [0] j ?_;refine aV (aL 0 8 (.a 8 (.a 9 (.a 10 (.q 11 (.q 12 (.a 13 .nil))))))) ?_;refine ax ?_;refine aP [0] A ?_;refine zcM ?_;exact⟨(g,X++[a],N),⟨_,_,Wk.aZ az,_,_,rfl,rfl,by simp[c],by rw[vO,R];rfl,by show n+1+g<=f;omega,G,h⟩,by simp⟩
   ·have u:(p.code==0)=false:=by grind
    rw[ae (fun F=>Y F.1)]at h
    obtain⟨rfl,rfl⟩:X=l/\p=E:=by grind
    have m:=gg p [125] x W;subst R;refine eC ?_;exact zbK
theorem YI{f:Nat}(C:St f)(d:Nat)(p:RS)(t:T)(q:RS)(x:PX)(F:p.ok)(hd:d+3+(f+1)<=1099511627776)(h:iS (f+1) (.stmt d) p=some (t,q)) :
  GF prog 317 [.loc 0 0,.v (ii (d:Nat))] [cP p x] (qT t) [cP q x]:=by
 rw[iS]at h;have E:=ies f;have m:=wA p d x F;have Z:=r8 p 0 x F aR
 by_cases hc:(cV p d).code=0
 case neg =>
  have Q:((cV p d).code==0)=false:=by grind
  rw[ae hc]at h;rw[Q]at m;cases h;refine au func317 ntmps317 ?_;refine D [0] Z ?_;refine D [0] m ?_;refine D [] Hw ?_;exact ay
 case pos =>
 have Q:((cV p d).code==0)=true:=by grind
 rw[ak hc]at h;rw[Q,pG hc]at m;clear hc Q;have vz:=F.2;have Te:=F.1;have O:=lD p 0 l7 x F aR;have B:=lD p 0 gy x F aR;have h3:=lD p 0 gP x F aR;have h4:=lD p 0 gW x F aR
 cases W:is p 0 l7 with
 |true =>
  rw[W]at O;rw[ak W]at h;have M:p.i<p.l.length:=is_lt (k:=0) W;have j:=(cY M).ok F
  have hn:=rG p.next x j
  have Tf:=(jz j).ok j;have hw:=gg _ [61] x Tf;have w:=(dr Tf [61]).ok Tf
  cases H:iE f (.expr (d+1)) (want (cv p.next) [61])with
  |none=>grind
  |some r =>
   have⟨e,Y⟩:=r;rw[H]at h;cases h;have z:=((ku f).1 _ _ _ _ w H).ok w;have o:=E.expr (d+1) _ e Y x w V H;have u:=gg Y [59] x z;have n:=fM 13 (tok p 0).at_ (tok p.next 0).s [e] [[qT e]] (ja _);generalize tok p 0=tk at *
   generalize tok p.next 0=tn at *
   refine au func317 ntmps317 ?_;refine D [0] Z ?_;refine D [0] m ?_;refine D [0] O ?_;refine D [0] hn ?_;refine zac ?_;refine D [0] hw ?_;exact zdf
 |false =>
 rw[W]at O;rw[ae zff]at h
 have main:∀bi bw:Bool,is p 0 gy=bi->is p 0 gP=bw->(bi=true\/bw=true)->GF prog 317 [.loc 0 0,.v (ii (d:Nat))] [cP p x] (qT t) [cP q x]:=by
  intro bi bw W4 hbw Fs
  have G:is p 0 gy=true\/is p 0 gP=true:=by grind
  have M:p.i<p.l.length:=by rcases G with hh|hh<;>exact is_lt (k:=0) hh
  rw[ak G]at h;have j:=(cY M).ok F
  have hw:=gg p.next [40] x j
  have w:=(dr j [40]).ok j
  cases H:iE f (.expr (d+1)) (want p.next [40])with
  |none=>grind
  |some r =>
  have⟨c,Y⟩:=r;rw[H]at h;simp only at h;have z:=((ku f).1 _ _ _ _ w H).ok w;have o:=E.expr (d+1) _ c Y x w V H;have u:=gg Y [41] x z;have Xl:=(dr z [41]).ok z
  cases hb:iS f (.block (d+1)) (want Y [41])with
  |none=>grind
  |some r =>
  have⟨b,N⟩:=r;rw[hb]at h;simp only at h;have S:=((En f).1 _ _ _ _ Xl hb).ok Xl;have ab7:=S.2;have ab6:=S.1;have A:=C.block (d+1) _ b N x Xl V hb;have R:=lD N 0 iH x S aR;rw[W4]at B;rw[hbw]at h3
  cases bi with
  |true =>
   have Zz:∀(cc ee:Bool),(N.code==0)=cc->is N 0 iH=ee->(cc=false\/ee=false)->GF prog 317 [.loc 0 0,.v (ii (d:Nat))] [cP p x] (qT t) [cP q x]:=by
    intro cc ee hcc J abZ
    rw[ae (fun hh=>by
     grind),ak W4]at h
    cases h;rw[J]at R;have n:=fM 9 (tok p 0).at_ [] [c,b] [[qT c],[qT b]] (ja _);generalize tok p 0=tk at *
    cases cc with
    |true =>
     cases ee with
     |true=>grind
     |false =>
      refine au func317 ntmps317 ?_;refine ze8 ?_;refine I ?_;refine zac ?_;refine D [0] u ?_;refine D [0] A ?_;refine zbD ?_;refine D [0] R ?_;exact zdh
    |false =>
     refine au func317 ntmps317 ?_;refine zaR ?_;exact zbt
   by_cases NB:N.code=0
   ·cases J:is N 0 iH with
    |true =>
     clear Zz;rw[ak ⟨W4,NB,J⟩]at h;rw[J]at R
     have hcc:(N.code==0)=true:=by grind
     have QR:N.i<N.l.length:=is_lt (k:=0) J;have hqn:=(cY QR).ok S
     cases xM:iS f (.block (d+1)) N.next with
     |none=>grind
     |some r =>
      have⟨b2,q3⟩:=r;rw[xM]at h;cases h;have Zv:=C.block (d+1) _ b2 _ x hqn V xM;have n:=fM 9 (tok p 0).at_ [] [c,b,b2] [[qT c],[qT b],[qT b2]] (ja _);generalize tok p 0=tk at *;refine au func317 ntmps317 ?_;refine ze8 ?_;refine I ?_;refine zac ?_;refine D [0] u ?_;refine D [0] A ?_;refine zbD ?_;refine D [0] R ?_;refine D [0] Zv ?_;refine zbD ?_;exact zdh
    |false=>grind
   grind
  |false =>
   have aaR:bw=true:=by grind
   subst aaR;rw[ae (fun hh=>by grind),ae zff]at h;cases h;have n:=fM 10 (tok p 0).at_ [] [c,b] [[qT c],[qT b]] (ja _);generalize tok p 0=tk at *;refine au func317 ntmps317 ?_;refine zaR ?_;refine D [0] h3 ?_;exact zbt
 cases Fv:is p 0 gy with
 |true=>grind
 |false =>
 cases hs3:is p 0 gP with
 |true=>grind
 |false =>
 clear main;rw[Fv]at B;rw[hs3]at h3;rw[ae zff]at h
 cases X:is p 0 gW with
 |true =>
  rw[X]at h4;rw[ak X]at h;have M:p.i<p.l.length:=is_lt (k:=0) X;have j:=(cY M).ok F
  cases H:iE f (.expr (d+1)) p.next with
  |none=>grind
  |some r =>
   have⟨e,Y⟩:=r;rw[H]at h;cases h;have z:=((ku f).1 _ _ _ _ j H).ok j;have o:=E.expr (d+1) _ e Y x j V H;have u:=gg Y [59] x z;have n:=fM 11 (tok p 0).at_ [] [e] [[qT e]] (ja _);generalize tok p 0=tk at *;refine au func317 ntmps317 ?_;refine zaR ?_;refine D [0] h3 ?_;refine D [0] h4 ?_;exact zdf
 |false =>
  rw[X]at h4;rw[ae zff]at h;have hsi:=RY (f:=f) d p t q x F V h;generalize tok p 0=tk at *;refine au func317 ntmps317 ?_;refine zaR ?_;refine D [0] h3 ?_;refine D [0] h4 ?_;refine D [0] hsi ?_;exact ay
theorem iss(f:Nat):St f:=by
 induction f using Nat.strongRecOn with
 |_ f O =>
  cases f with
  |zero=>exact⟨fun d p t q x _ _ h=>by simp[iS]at h,fun d p t q x _ _ h=>by simp[iS]at h⟩
  |succ f =>
   have C:=O f (Nat.lt_succ_self f)
   have l:∀Z,Z<=f->St Z:=fun Z h=>O Z (Nat.lt_succ_of_le h)
   exact⟨fun d p t q x W T h=>Uh l d p t q x W T h,fun d p t q x W T h=>YI C d p t q x W T h⟩
end Go.Xg
namespace Go.Xg
open Go.RowKit Go.Xw Go.Proofs Tryz
open GV (U)
open Go.Xp (Nd T aU aM dW bZ bx)
attribute [local irreducible] GW GL GO YG GC GA bo bq
def sK(n:Nd):am:=[.v (ii n.ai),.v (ii n.at_),.v (ii n.n),.v (sv n.s),ints n.aw]
def CG(t:T)(x:Value):am:=[.v (ii t.n.ai),.v (ii t.n.at_),.v (ii t.n.n),.v (sv t.n.s),.v x]
theorem Na:∀(N:Nat)(t:T),aU t<=N->∀(n:Nat)(rows:List am)(a:Option Addr)(c:Nat),rows.length=n->n+aU t<=1099511627776 ->
  GC prog 143 [.v (.slice a n c),qT t] [.vech 82 5 rows (.slice a n c)] fun g bM=>∃a c,g=.v (.slice a (n+aU t) c)/\bM=[.vech 82 5 (rows++(dW n t).map sK) (.slice a (n+aU t) c)]:=by
 intro N
 induction N with
 |zero=>intro t h;exact zed
 |succ N Z =>
 intro t O n rows a c W Q;subst W;rw[Go.Xp.eI]at Q O;have R:=Go.Xp.eP t.aw;refine au func143 ntmps143 ?_;refine GL.kx 0 rfl rfl rfl rfl rfl rfl rfl rfl aQ np ?_;intro a c;refine zb0 ?_;refine GW.wk (Wk.gz 3 1) ?_
 refine GW.range (lP t.aw).length (fun k M Γ=>∃a c e l,M=.v (.slice a (rows.length+1+aM (t.aw.take k)) c)::qT t::U::U::U::.v (ii (rows.length:Nat))::zU 14 (.sl 1 (lP t.aw)::.v (ii ((lP t.aw).length:Int))::.v (ii (k:Nat))::zU 21 []) /\
  Γ=[.vech 82 5 (rows++CG t (.slice e k l)::(bZ (rows.length+1) (t.aw.take k)).map sK) (.slice a (rows.length+1+aM (t.aw.take k)) c),.vech 3 1 ((bx (rows.length+1) (t.aw.take k)).map fun z=>[.v (ii z)]) (.slice e k l)]) ?_ (by rw[nW];omega) ?_ ?_ ?_
 ·refine⟨_,_,Wk.aZ az,a,c,none,0,rfl,?_⟩;rfl
 ·rintro k _ _⟨a,c,e,l,rfl,rfl⟩;exact dO
 ·rintro k _ _ u⟨a,c,e,l,rfl,rfl⟩;rw[nW]at u;obtain⟨kid,b⟩:∃kid,t.aw[k]?=some kid:=⟨t.aw[k],by simp[u]⟩;have hr:=Br b;have Y:=Go.Xp.r7 b;have S:=Go.Xp.pL t.aw (k+1)
  have E:t.aw.take (k+1)=t.aw.take k++[kid]:=by rw[dd,b];rfl
  have hX:((bZ (rows.length+1) (t.aw.take k)).map sK).length=aM (t.aw.take k):=by rw[ct,Go.Xp.kp]
  have m:((bx (rows.length+1) (t.aw.take k)).map fun z=>[GV.v (ii z)]).length=k:=by rw[ct,Go.Xp.dw,mf];omega
  rw[E,Go.Xp.wM,Go.Xp.vo,Go.Xp.pj];simp only[bx,bZ,aM,eT,Nat.add_zero,gJ,List.map_cons,map_nil,<-mg]
  have A:=fun(rs:List am)a c h=>Z kid V (rows.length+1+aM (t.aw.take k)) rs a c h V
  generalize(bZ (rows.length+1) (t.aw.take k)).map sK=X at *;generalize((bx (rows.length+1) (t.aw.take k)).map fun z=>[GV.v (ii z)])=w at *;generalize aM (t.aw.take k)=s at *;subst m
  have q:∀r:am,(rows++r::X).length=rows.length+1+s:=fun r=>by simp;omega
  have d:(rows++CG t (.slice e w.length l)::X)[rows.length]?=some (CG t (.slice e w.length l)):=by simp
  have C:=q (CG t (.slice e w.length l));unfold CG at d C |-;refine I ?_;refine zeW ?_;intro F H;refine zb0 ?_;refine pP ?_;rw[Gx];simp only[bJ];refine I ?_;refine b6 [0] (A _ _ _ (q _)) ?_;rintro _ _⟨G,J,rfl,rfl⟩;refine zas ?_;refine⟨rfl,rfl,_,_,Wk.aZ az,G,J,F,H,rfl,?_⟩;rw[dP];rfl
 ·rintro _ _⟨a,c,e,l,rfl,rfl⟩;rw[nW,dD];rw[Go.Xp.eI,Go.Xp.M8]
  have m:((bx (rows.length+1) t.aw).map fun z=>[GV.v (ii z)]).length=t.aw.length:=by rw[ct,Go.Xp.dw]
  have B:ints (bx (rows.length+1) t.aw)=.sl 1 ((bx (rows.length+1) t.aw).map fun z=>[GV.v (ii z)]):=rfl;rw[List.map_cons];simp only[sK,CG];rw[B,show rows.length+(aM t.aw+1)=rows.length+1+aM t.aw by omega];generalize(bZ (rows.length+1) t.aw).map sK=X at *;generalize((bx (rows.length+1) t.aw).map fun z=>[GV.v (ii z)])=w at *;generalize aM t.aw=s at *
  have d:∀r:am,(rows++r::X)[rows.length]?=some r:=fun r=>by simp
  refine bh ?_;apply GW.wk
  ·apply Wk.LS (i:=0) (idx:=rows.length) (o:=4) (j:=1)
   ·rfl
   ·exact d _
   ·rfl
   ·rfl
   ·rfl
  rw[Gx];simp only[bJ];refine zbb ?_;exact⟨_,_,rfl,rfl⟩
open Go.Sp Go.Im
open Go.Xp (ji Ar)
structure HW where
 aT:Option Addr
 cT:Nat
 aG:Option Addr
 cG:Nat
 aA:Option Addr
 cA:Nat
 aF:Option Addr
 cF:Nat
def rK(x:Ar):am:=[.v (sv x.name),.v (ii x.size)]
def rL(x:ab × List ab):am:=[.v (sv x.1),strs x.2,.v (ii 0)]
def mx(x:ab):am:=[.v (sv x)]
abbrev hx(st:PS)(h:HW):PX:=⟨.slice h.aT st.aE.length h.cT,.slice h.aG st.aq.length h.cG,.slice h.aA st.aj.length h.cA,.slice h.aF st.av.length h.cF,.slice none 0 0⟩
abbrev u4(p:RS)(st:PS)(h:HW):ap:=[cP p (hx st h),.vech 132 1 (lP st.aE) (.slice h.aT st.aE.length h.cT),.vech 9 1 (st.aq.map mx) (.slice h.aG st.aq.length h.cG),.vech 79 2 (st.aj.map rK) (.slice h.aA st.aj.length h.cA),.vech 53 3 (st.av.map rL) (.slice h.aF st.av.length h.cF)]
theorem wY{R β:Type}(g:R->β)(l:List R)(x:R):(l++[x]).map g=l.map g++[g x]:=by simp
theorem PW{f:Nat}(p:RS)(st:PS)(h:HW)(q:RS)(E:PS)(n:Nat)(M:p.ok)(hn:st.le n)(hb:n+1<=1099511627776)(O:is p 0 ji=true)(l:iW f p st=some (q,E)) :
  GC prog 199 [.loc 0 0] (u4 p st h) (fun g bM=>g=.tup []/\∃h',bM=u4 q E h'):=by
 have⟨Te,vz⟩:=id M;have⟨hn1,hn2,hn3,hn4⟩:=hn;unfold iW at l;rw[ak O]at l;have C:=lD p 0 ji (hx st h) M aR;rw[O]at C;have A:=(lj O).ok M
 have r:=rG p.next (hx st h) A
 have d:=(jz A).ok A;generalize(tok p.next 0).s=s at *
 generalize cv p.next=b at *
 have i:=lD b 0 [91] (hx st h) d aR
 have G:¬(b.code=0/\is b 0 [91]=true)->True:=fun _=>trivial
 cases S:(b.code==0)with
 |false =>
  have w:¬b.code=0:=by simpa using S
  rw[ae (fun H=>w H.1)]at l;cases l
  have m:(st.aq.map mx).length+1=(st.aq++[s]).length:=by simp
  have o:st.aq.map mx++[[GV.v (sv s)]]=(st.aq++[s]).map mx:=by simp[mx]
  have u:(st.aq.map mx).length+1<=1099511627776:=by simp;omega
  refine au func199 ntmps199 ?_;refine D [0] C ?_;refine D [0] r ?_;exact zaU
 |true =>
  have w:b.code=0:=by simpa using S
  cases e:is b 0 [91]with
  |false =>
   rw[e]at i;rw[ae (fun H=>by have:=H.2;rw[e]at this;cases this)]at l;cases l
   have m:(st.aq.map mx).length+1=(st.aq++[s]).length:=by simp
   have o:st.aq.map mx++[[GV.v (sv s)]]=(st.aq++[s]).map mx:=by simp[mx]
   have u:(st.aq.map mx).length+1<=1099511627776:=by simp;omega
   refine au func199 ntmps199 ?_;refine D [0] C ?_;refine D [0] r ?_;refine D [0] i ?_;exact zaU
  |true =>
   rw[e]at i;rw[ak ⟨w,e⟩]at l;have j:=(lj e).ok d;have T:=d.1;have W:=d.2;have Y:=j.1;have Z:=j.2
   have ht:=r8 b.next 0 (hx st h) j aR
   have R:=zc b.next (hx st h) j
   have B:(tok b.next 0).ai=1->b.next.next.ok:=fun z=>(cY (sE (p:=b.next) (k:=0) (by rw[z];decide))).ok j
   generalize tok b.next 0=tk at *
   by_cases z:tk.ai=1
   ·rw[ak z]at l;cases l
    have J:(tk.ai != 1)=false:=by simpa using z
    have t:=B z;have ab3:=t.1
    have Q:=gg b.next.next [93] (hx st h) t
    have N:=(dr t [93]).ok t
    generalize want b.next.next [93]=p5 at *
    have m:(st.aj.map rK).length+1=(st.aj++[(⟨s,tk.n⟩:Ar)]).length:=by simp
    have o:st.aj.map rK++[[GV.v (sv s),.v (ii tk.n)]]=(st.aj++[(⟨s,tk.n⟩:Ar)]).map rK:=by simp[rK]
    have u:(st.aj.map rK).length+1<=1099511627776:=by simp;omega
    refine au func199 ntmps199 ?_;refine D [0] C ?_;refine D [0] r ?_;refine D [0] i ?_;refine D [0] ht ?_;refine zac ?_;refine D [0] Q ?_;refine aV (aL 0 10 (.a 10 (.a 11 (aL 12 3 (.a 15 .nil))))) ?_;refine zdP ?_;refine OA rfl rfl (GL.ml 3 rfl rfl rfl aQ rfl rfl (by refine⟨?_,?_⟩;(· show _+1<=_;omega);(· show(_+1)*_<=_;omega)) ?_);intro a c;refine cD ?_;generalize F:chunk 1 2 _=X
    obtain rfl:X=[rK ⟨s,tk.n⟩]:=by rw[<-F];rfl
    clear F
    try (generalize F:chunk 1 2 _=X;obtain rfl:X=[rK ⟨s,tk.n⟩]:=by rw[<-F];rfl)
    rw[show(st.aj.map rK).length+[rK ⟨s,tk.n⟩].length=(st.aj++[(⟨s,tk.n⟩:Ar)]).length by simp,<-wY rK st.aj ⟨s,tk.n⟩];refine bn ?_;refine zac ?_;refine D [0] (gg p5 [59] (hx { st with aj:=st.aj++[⟨s,tk.n⟩] } { h with aA:=a,cA:=c }) N) ?_;refine cm ?_;exact⟨rfl,{ h with aA:=a,cA:=c },rfl⟩
   ·rw[ae z]at l;cases l
    have J:(tk.ai != 1)=true:=by simpa using z
    refine au func199 ntmps199 ?_;refine D [0] C ?_;refine D [0] r ?_;refine D [0] i ?_;refine D [0] ht ?_;refine D [0] R ?_;refine cm ?_;exact⟨rfl,h,rfl⟩
open Go.Xp (jv)
theorem L4{f:Nat}(p:RS)(st:PS)(h:HW)(q:RS)(Y:PS)(W:p.ok)(G:is p 0 ji=false)(u:is p 0 jv=false)(l:iW f p st=some (q,Y)) :
  GC prog 199 [.loc 0 0] (u4 p st h) (fun g bM=>g=.tup []/\∃j,bM=u4 q Y j):=by
 unfold iW at l;rw[ae zff,ae zff]at l;cases l;have i:=lD p 0 ji (hx st h) W aR;have E:=lD p 0 jv (hx st h) W aR;have e:=zc p (hx st h) W;rw[G]at i;rw[u]at E;refine au func199 ntmps199 ?_;refine D [0] i ?_;refine D [0] E ?_;refine D [0] e ?_;refine cm ?_
 grind
abbrev Zk(p:RS)(st:PS)(h:HW)(s:ab)(T:List ab)(a:Option Addr)(c:Nat):ap:=u4 p st h++[.box 53 [.v (sv s),.v (.slice a T.length c),.v (ii 0)],.vech 9 1 (T.map mx) (.slice a T.length c)]
theorem L5{f:Nat}(p:RS)(st:PS)(h:HW)(q:RS)(H:PS)(n:Nat)(k:p.ok)(hn:st.le n)(hb:n+f+4<=1099511627776)(hs0:is p 0 ji=false)(hs:is p 0 jv=true)(v:iW f p st=some (q,H)) :
  GC prog 199 [.loc 0 0] (u4 p st h) (fun g bM=>g=.tup []/\∃h',bM=u4 q H h'):=by
 have⟨Te,vz⟩:=id k;have⟨hn1,hn2,hn3,hn4⟩:=hn;unfold iW at v;rw[ae zff,ak hs]at v;have M:=lD p 0 ji (hx st h) k aR;rw[hs0]at M;have C:=lD p 0 jv (hx st h) k aR;rw[hs]at C;have E:=(lj hs).ok k
 have w:=rG p.next (hx st h) E
 have e:=(jz E).ok E;generalize(tok p.next 0).s=s at *
 generalize cv p.next=p2 at *
 have T:=gg p2 [40] (hx st h) e;have R:=(dr e [40]).ok e;generalize want p2 [40]=p3 at *
 cases u:pH f [] p3 with
 |none=>grind
 |some r =>
 have⟨l,q1⟩:=r;rw[u]at v;simp only at v;refine au func199 ntmps199 ?_;refine D [0] M ?_;refine D [0] C ?_;refine D [0] w ?_;refine zac ?_;refine D [0] T ?_;refine GW.wk (Wk.gz 9 1) ?_;refine GW.loop (fun z:Nat × List ab × RS=>z.1) (fun z fr Γ=>∃a c,fr=.loc 0 0::U::U::U::.loc 5 0::zU 148 []/\Γ=Zk z.2.2 st h s z.2.1 a c/\z.2.2.ok/\z.2.1.length+z.1<=f/\pH z.1 z.2.1 z.2.2=some (l,q1)) (f,[],p3) ?_ ?_
 ·exact⟨_,_,Wk.aZ az,none,0,rfl,rfl,R,by simp,u⟩
 clear u R T e w C M E;rintro⟨g,b,p⟩_ _⟨a,c,rfl,rfl,k,hng,u⟩;simp only at k hng u
 cases g with
 |zero=>cases u
 |succ g =>
 rw[pH]at u;have C:=lD p 0 [41] (hx st h) k aR
 by_cases J:p.code=0/\is p 0 [41]=false
 ·have⟨hc,O⟩:=id J;rw[ak J]at u;rw[O]at C
  have Q:(p.code==0)=true:=by grind
  by_cases h0:b.length=0
  ·obtain rfl:=ll h0
   have hd:decide ((0:Int)<(([]:List ab).length:Int))=false:=by decide
   rw[ak zfw]at u;have w:=rG p (hx st h) k;have e:=(jz k).ok k;generalize(tok p 0).s=G at *;refine I ?_;refine D [0] C ?_;refine zbR ?_;refine aP [0] w ?_;refine zap ?_;refine OA rfl rfl (GL.ml 6 (news:=[mx G]) rfl rfl rfl aQ rfl rfl (by refine⟨?_,?_⟩;(· show _+1<=_;omega);(· show(_+1)*_<=_;omega)) ?_);intro X c2;refine zdy ?_;exact⟨(g,[G],cv p),⟨_,_,Wk.aZ az,X,c2,rfl,rfl,e,by grind,u⟩,by simp⟩
  ·have hd:decide ((0:Int)<(b.length:Int))=true:=by grind
   rw[ae h0]at u;have hwc:=gg p [44] (hx st h) k;have N:=(dr k [44]).ok k;generalize want p [44]=pw at *;have w:=rG pw (hx st h) N;have e:=(jz N).ok N;generalize(tok pw 0).s=G at *
   have hlen:(b.map mx).length<=f:=by grind
   refine I ?_;refine D [0] C ?_;refine zac ?_;refine D [0] hwc ?_;refine zbR ?_;refine aP [0] w ?_;refine zap ?_;refine OA rfl rfl (GL.ml 6 (news:=[mx G]) rfl rfl rfl aQ rfl rfl (by refine⟨?_,?_⟩;(· show _+1<=_;omega);(· show(_+1)*_<=_;omega)) ?_);intro X c2;refine cD ?_
   try rw[show(b.map mx).length+1=(b++[G]).length by simp]
   rw[show(b.map mx).length+[mx G].length=(b++[G]).length by simp,<-wY mx b G];refine bn ?_;exact⟨(g,b++[G],cv pw),⟨_,_,Wk.aZ az,X,c2,rfl,rfl,e,by grind,u⟩,by simp⟩
 ·rw[ae J]at u
  obtain⟨rfl,rfl⟩:b=l/\want p [41]=q1:=by grind
  clear u;have F:=gg p [41] (hx st h) k;have S:=(dr k [41]).ok k
  have Xb:(lP st.aE).length+1<=1099511627776:=by rw[nW];omega
  have Dr:(st.av.map rL).length+1<=1099511627776:=by grind
  by_cases hc:p.code=0
  ·have Q:(p.code==0)=true:=by grind
   have O:is p 0 [41]=true:=by
    grind
   rw[O]at C
   by_cases d:(want p [41]).code=0
   ·have B:((want p [41]).code==0)=true:=by grind
    rw[ak d]at v
    cases m:iS f (.block 1) (want p [41])with
    |none=>grind
    |some r =>
    have⟨t,W⟩:=r;rw[m]at v
    obtain⟨rfl,rfl⟩:W=q/\_=H:=by simpa using v
    have A:=(iss f).block 1 _ t W (hx st h) S V m;clear m d;generalize want p [41]=pq at *;refine I ?_;refine D [0] C ?_;refine jE ?_;refine I ?_;refine zcA ?_;refine OA rfl rfl (GL.ml 1 (news:=[[qT t]]) rfl rfl rfl aQ rfl rfl (by refine⟨?_,?_⟩;(· show _+1<=_;omega);(· show(_+1)*_<=_;omega)) ?_);intro Y c3;refine cD ?_
    try rw[show(lP st.aE).length+1=(st.aE++[t]).length by simp[nW]]
    refine zeE ?_;apply GW.wk
    ·apply Wk.o9 (i:=5) (o:=1) (j:=6)
     ·rfl
     ·rfl
     ·rfl
     ·rfl
    simp only[oset,bJ];refine aV (aL 0 7 (.a 7 (.a 8 (aL 9 3 (.a 12 .nil))))) ?_;refine zdP ?_;refine OA rfl rfl (GL.ml 4 (news:=[rL (s,b)]) rfl rfl rfl aQ rfl rfl (by refine⟨?_,?_⟩;(· show _+1<=_;omega);(· show(_+1)*_<=_;omega)) ?_);intro Z c4;refine cD ?_
    try rw[show(st.av.map rL).length+1=(st.av++[(s,b)]).length by simp]
    exact zbr
   ·have B:((want p [41]).code==0)=false:=by grind
    rw[ae d]at v;cases v;clear d;generalize want p [41]=pq at *;refine I ?_;refine D [0] C ?_;refine jE ?_;refine I ?_;refine zac ?_;refine D [0] F ?_;refine cm ?_
    grind
  ·have Q:(p.code==0)=false:=by grind
   by_cases d:(want p [41]).code=0
   ·have B:((want p [41]).code==0)=true:=by grind
    rw[ak d]at v
    cases m:iS f (.block 1) (want p [41])with
    |none=>grind
    |some r =>
    have⟨t,W⟩:=r;rw[m]at v
    obtain⟨rfl,rfl⟩:W=q/\_=H:=by simpa using v
    have A:=(iss f).block 1 _ t W (hx st h) S V m;clear m d;generalize want p [41]=pq at *;refine zb4 ?_;refine zcA ?_;refine OA rfl rfl (GL.ml 1 (news:=[[qT t]]) rfl rfl rfl aQ rfl rfl (by refine⟨?_,?_⟩;(· show _+1<=_;omega);(· show(_+1)*_<=_;omega)) ?_);intro Y c3;refine cD ?_
    try rw[show(lP st.aE).length+1=(st.aE++[t]).length by simp[nW]]
    refine zeE ?_;apply GW.wk
    ·apply Wk.o9 (i:=5) (o:=1) (j:=6)
     ·rfl
     ·rfl
     ·rfl
     ·rfl
    simp only[oset,bJ];refine aV (aL 0 7 (.a 7 (.a 8 (aL 9 3 (.a 12 .nil))))) ?_;refine zdP ?_;refine OA rfl rfl (GL.ml 4 (news:=[rL (s,b)]) rfl rfl rfl aQ rfl rfl (by refine⟨?_,?_⟩;(· show _+1<=_;omega);(· show(_+1)*_<=_;omega)) ?_);intro Z c4;refine cD ?_
    try rw[show(st.av.map rL).length+1=(st.av++[(s,b)]).length by simp]
    exact zbr
   ·have B:((want p [41]).code==0)=false:=by grind
    rw[ae d]at v;cases v;clear d;generalize want p [41]=pq at *;refine zb4 ?_;refine zac ?_;refine D [0] F ?_;refine cm ?_
    grind
open Go.Xp (Tok)
theorem VW{f:Nat}(p:RS)(st:PS)(h:HW)(q:RS)(Y:PS)(n:Nat)(W:p.ok)(hn:st.le n)(i:n+f+4<=1099511627776)(l:iW f p st=some (q,Y)) :
  GC prog 199 [.loc 0 0] (u4 p st h) (fun g bM=>g=.tup []/\∃e,bM=u4 q Y e):=by
 cases o:is p 0 ji with
 |true=>exact PW p st h q Y n W hn V o l
 |false =>
  cases b:is p 0 jv with
  |true=>exact L5 p st h q Y n W hn i o b l
  |false=>exact L4 p st h q Y W o b l
def n8(av:List (ab × List ab))(aE:List T)(k:Nat):List am:=av.mapIdx fun i x=>[.v (sv x.1),strs x.2,.v (ii (if i<k then((aM (aE.take i):Nat):Int)else 0))]
theorem Gw:∀(rows:List am)(i j o:Nat)(g:GV),(df rows i o g)[j]?=if j=i then(rows[j]?).map (fun r=>bJ r o g)else rows[j]?
 |[],i,j,o,g=>by simp[df]
 |r::rs,0,0,o,g=>by rfl
 |r::rs,0,j+1,o,g=>by rfl
 |r::rs,i+1,0,o,g=>by rfl
 |r::rs,i+1,j+1,o,g=>by
  rw[df,List.getElem?_cons_succ,Gw rs i j o g];simp
theorem Vq(av:List (ab × List ab))(aE:List T):av.map rL=n8 av aE 0:=by
 apply List.ext_getElem?;intro i;rw[n8,getElem?_mapIdx,dB];rfl
theorem Pc(av:List (ab × List ab))(aE:List T)(k:Nat):df (n8 av aE k) k 2 (.v (ii ((aM (aE.take k):Nat):Int)))=n8 av aE (k+1):=by
 apply List.ext_getElem?;intro i;rw[Gw,n8,n8,getElem?_mapIdx,getElem?_mapIdx]
 by_cases h:i=k
 ·subst h;rw[ak rfl]
  cases av[i]? with
  |none=>rfl
  |some x=>simp[bJ]
 grind
theorem RI{av:List (ab × List ab)}{aE:List T}{k:Nat}(j:Nat)(h:k<av.length):∃x,(n8 av aE j)[k]?=some [.v (sv x.1),strs x.2,.v (ii (if k<j then((aM (aE.take k):Nat):Int)else 0))]/\av[k]?=some x:=by
 refine⟨av[k],?_,by simp[h]⟩;rw[n8,getElem?_mapIdx];simp[h]
def JT(q:RS)(st:PS):GV :=
 if q.code=0 then
  if aM st.aE>800 then .tup [.agg [.sl 1 [],.sl 2 [],.sl 3 [],.sl 5 []],.v (ii 10),.v (ii 0)]
  else .tup [.agg [.sl 1 (st.aq.map mx),.sl 2 (st.aj.map rK),.sl 3 (n8 st.av st.aE st.aE.length),.sl 5 ((bZ 0 st.aE).map sK)],.v (ii 0),.v (ii 0)]
 else .tup [.agg [.sl 1 [],.sl 2 [],.sl 3 [],.sl 5 []],.v (ii q.code),.v (ii q.at_)]
theorem H8{G f:Nat}(ts:List Tok)(e:Int)(q:RS)(st:PS)(hl:ts.length<=1099511627776)(hb:G+f+4<=1099511627776)(hz:q.code=0->aM st.aE<=1099511627776)(h:n2 G f ⟨ts,0,e,0,0⟩ .empty=some (q,st)) :
  GF prog 129 [iv ts,.v (ii e)] [] (JT q st) []:=by
 unfold JT;refine au func129 ntmps129 ?_;refine GW.wk (Wk.gz 132 1) ?_;refine GW.wk (Wk.gz 9 1) ?_;refine GW.wk (Wk.gz 79 2) ?_;refine GW.wk (Wk.gz 53 3) ?_;refine GW.loop (fun z:Nat × RS × PS=>z.1) (fun z N Γ=>∃h n,N=iv ts::.v (ii e)::U::U::.loc 0 0::.v (ii 0)::.v (ii 0)::.loc 1 0::zU 71 []/\Γ=.box 28 [.v (.slice none 0 0),.v (.slice none 0 0),.v (.slice none 0 0),.v (.slice none 0 0)]::u4 z.2.1 z.2.2 h/\z.2.1.l=ts/\z.2.1.ok/\z.2.2.le n/\n+z.1<=G/\n2 z.1 f z.2.1 z.2.2=some (q,st)) (G,⟨ts,0,e,0,0⟩,.empty) ?_ ?_
 ·exact⟨_,_,Wk.aZ az,⟨none,0,none,0,none,0,none,0⟩,0,rfl,rfl,rfl,⟨bp _,hl⟩,⟨aY _,aY _,aY _,rfl⟩,by simp,h⟩
 clear h;rintro⟨g,p,s⟩_ _⟨b,n,rfl,rfl,B,F,A,Z,h⟩;simp only at B F A Z h
 cases g with
 |zero=>cases h
 |succ g =>
 rw[n2]at h
 by_cases w:p.code=0/\p.i<p.l.length
 ·rw[ak w]at h
  have c:(p.code==0)=true:=by grind
  have d:decide ((p.i:Int)<((ts.map dp).length:Int))=true:=by
   grind
  cases H:iW f p s with
  |none=>grind
  |some r =>
   have⟨p2,s2⟩:=r;rw[H]at h;simp only at h;have C:=ZD F H;refine I ?_;refine b6 [1,2,3,4,5] (VW p s b p2 s2 n F A V H) ?_;rintro _ _⟨rfl,T,rfl⟩;refine zas ?_;exact⟨(g,p2,s2),⟨_,_,Wk.aZ az,T,n+1,rfl,rfl,by rw[C.1,B],C.ok F,ZB H A,by omega,h⟩,by simp⟩
 ·rw[ae w]at h
  obtain⟨rfl,rfl⟩:p=q/\s=st:=by grind
  clear h
  have W:∀J M:Bool,(p.code==0)=J->decide ((p.i:Int)<((ts.map dp).length:Int))=M->J=true->M=false:=fun J M h1 h2 h3=>by
   grind
  by_cases Q:p.code=0
  ·rw[ak Q];have hz:=hz Q
   have c:(p.code==0)=true:=by grind
   have S:(p.code != 0)=false:=by grind
   have d:=W _ _ c rfl rfl;have QR:=A.aE;have NK:=A.av;have hpt:=nW s.aE;have NL:=Go.Xp.eP s.aE;refine zb4 ?_;refine GW.wk (by apply Wk.Bw (t:=52) (i:=2)<;>rfl) ?_;simp only[oset,bJ];refine I ?_;refine GW.wk (Wk.gz 82 5) ?_;rw[Vq s.av s.aE]
   refine GW.range s.aE.length (fun k N Γ=>∃m u,N=U::U::U::U::.loc 0 0::.v (ii 0)::.v (ii 0)::U::.loc 6 0::zU 43 (.sl 1 (lP s.aE)::.v (ii (s.aE.length:Int))::.v (ii (k:Nat))::zU 24 [])/\Γ=[.box 28 [.v (.slice none 0 0),.v (.slice none 0 0),.v (.slice none 0 0),.v (.slice none 0 0)],cP p (hx s b),.vec 132 1 (lP s.aE).length (lP s.aE),.vech 9 1 (s.aq.map mx) (.slice b.aG s.aq.length b.cG),.vech 79 2 (s.aj.map rK) (.slice b.aA s.aj.length b.cA),.vech 53 3 (n8 s.av s.aE k) (.slice b.aF s.av.length b.cF),
    .box 28 [.v (.slice b.aG s.aq.length b.cG),.v (.slice b.aA s.aj.length b.cA),.v (.slice b.aF s.av.length b.cF),.v (.slice m (aM (s.aE.take k)) u)],.vech 82 5 ((bZ 0 (s.aE.take k)).map sK) (.slice m (aM (s.aE.take k)) u)]) ?_ V ?_ ?_ ?_
   ·exact⟨_,_,Wk.aZ az,none,0,rfl,rfl⟩
   ·rintro k _ _⟨m,u,rfl,rfl⟩;exact dO
   ·rintro k _ _ d⟨m,u,rfl,rfl⟩;obtain⟨t,ht⟩:∃t,s.aE[k]?=some t:=⟨s.aE[k],by simp[d]⟩;have hr:=Br ht;have sM:=Go.Xp.r7 ht;have hle:=Go.Xp.pL s.aE (k+1)
    have Fx:s.aE.take (k+1)=s.aE.take k++[t]:=by grind[dd]
    have⟨x,E,hx2⟩:=RI (av:=s.av) (aE:=s.aE) (k:=k) k V;rw[ae (Nat.lt_irrefl k)]at E;have xo:k<(n8 s.av s.aE k).length:=(bY E).1
    have hX:((bZ 0 (s.aE.take k)).map sK).length=aM (s.aE.take k):=by grind[Go.Xp.kp]
    have Y:=Na (aU t) t (aY _) (aM (s.aE.take k)) _ m u hX V;rw[<-Pc s.av s.aE k,Fx,Go.Xp.vo,Go.Xp.pj];simp only[bZ,aM,eT,Nat.add_zero,dJ,gJ];generalize(bZ 0 (s.aE.take k)).map sK=X at *;generalize aM (s.aE.take k)=z at *;generalize n8 s.av s.aE k=R at *;refine I ?_;refine pP ?_;refine I ?_;refine b6 [7] Y ?_;rintro _ _⟨a5,c5,rfl,rfl⟩;refine zas ?_;exact⟨rfl,rfl,_,_,Wk.aZ az,a5,c5,rfl,rfl⟩
   ·rintro _ _⟨m,u,rfl,rfl⟩;rw[dD]
    have hX:((bZ 0 s.aE).map sK).length=aM s.aE:=by grind[Go.Xp.kp]
    by_cases h8:aM s.aE>800
    ·rw[ak h8]
     have O:decide ((800:Int)<(aM s.aE:Int))=true:=by grind
     generalize aM s.aE=z at *;refine I ?_;refine BJ ?_;exact zaA
    ·rw[ae h8]
     have O:decide ((800:Int)<(((bZ 0 s.aE).map sK).length:Int))=false:=by grind
     refine bh ?_;refine GW.wk (by apply Wk.o9 (i:=6) (o:=0) (j:=3)<;>rfl) ?_;simp only[oset,bJ];refine GW.wk (by apply Wk.o9 (i:=6) (o:=1) (j:=4)<;>rfl) ?_;simp only[oset,bJ];refine GW.wk (by apply Wk.o9 (i:=6) (o:=2) (j:=5)<;>rfl) ?_;simp only[oset,bJ];refine GW.wk (by apply Wk.o9 (i:=6) (o:=3) (j:=7)<;>rfl) ?_;simp only[oset,bJ];refine I ?_;refine me ?_;exact zah
  ·rw[ae Q]
   have c:(p.code==0)=false:=by grind
   have S:(p.code != 0)=true:=by grind
   refine zb4 ?_;refine aV (aL 0 9 (.a 9 (.q 10 (.q 11 .nil)))) ?_;refine bn ?_;refine BJ ?_;exact zaA
end Go.Xg
namespace Go.Xg
open Go.RowKit Go.Xw Go.Proofs Tryz
open GV (U)
open Go.Sp (small eM et)
open Go.Im (oG)
attribute [local irreducible] GW GL GO YG GC GA bo bq
theorem yC(c:UInt8):GF prog 238 [Da c] [] (.v (.bool (eM c))) []:=by
 unfold eM;refine dc func238 ntmps238 ?_
 cases h:decide ((48:Int)<=(c.toNat:Int))
 all_goals
  exact aK
theorem wV(c:UInt8):GF prog 179 [Da c] [] (.v (.bool (small c))) []:=by
 unfold small;refine dc func179 ntmps179 ?_
 cases h:decide ((97:Int)<=(c.toNat:Int))
 all_goals
  exact aK
theorem Be(c:UInt8):GF prog 181 [Da c] [] (.v (.bool (et c))) []:=by
 unfold et;have G:=wV c;have T:=yC c;generalize small c=n at *;generalize eM c=m at *;refine au func181 ntmps181 ?_;refine ig [] G ?_
 cases n with
 |true =>
  exact aK
 |false =>
  cases o:decide ((65:Int)<=(c.toNat:Int))with
  |true =>
   cases b:decide ((c.toNat:Int)<=90)with
   |true =>
    exact aK
   |false =>
    refine I ?_;refine ig [] T ?_
    cases m with
    |true =>
     exact aK
    |false =>
     exact aK
  |false =>
   refine I ?_;refine ig [] T ?_
   cases m with
   |true =>
    exact aK
   |false =>
    exact aK
theorem LO(k:FuncId)[hf:fX prog k](p:UInt8->Bool)(O:∀c,GF prog k [Da c] [] (.v (.bool (p c))) [])(s:ab)(a:Nat)(H:s.length<=1099511627776)(ha:a<=s.length) :
  GF prog 180 [.v (sv s),.v (ii (a:Nat)),.v (.func (.func k) #[] #[])] [] (.v (ii (Go.Sp.run s p (s.length+1) a:Nat))) []:=by
 generalize i:Go.Sp.run s p (s.length+1) a=R;refine au func180 ntmps180 ?_;refine GW.loop (fun x:Nat × Nat=>x.1) (fun x M u=>M=.v (sv s)::.v (ii (x.2:Nat))::.v (.func (.func k) #[] #[])::zU 18 []/\u=[]/\x.2<=s.length/\s.length<x.1+x.2/\Go.Sp.run s p x.1 x.2=R) (s.length+1,a) ?_ ?_
 ·exact⟨_,_,Wk.aZ az,rfl,rfl,ha,by simp only;omega,i⟩
 ·rintro⟨f,a⟩_ _⟨rfl,rfl,ha,G,h⟩;simp only at ha G h
  cases f with
  |zero=>omega
  |succ f =>
  rw[Go.Sp.run]at h
  cases W:s[a]? with
  |none =>
   rw[W]at h;simp only at h;subst h;have w:s.length<=a:=oP W
   have T:decide ((a:Int)<(s.length:Int))=false:=by simpa using w
   exact zc4
  |some c =>
   rw[W]at h;simp only at h;have N:a<s.length:=(bY W).1
   have T:decide ((a:Int)<(s.length:Int))=true:=by simpa using N
   have J:=O c
   cases F:p c with
   |false =>
    rw[F]at J;rw[ae (by rw[F];simp)]at h;subst h;refine I ?_;refine jW [] J ?_;exact zc4
   |true =>
    rw[F]at J;rw[ak F]at h;refine I ?_;refine jW [] J ?_;refine I ?_;exact⟨(f,a+1),⟨_,_,Wk.aZ az,rfl,rfl,N,by simp only;omega,h⟩,by simp⟩
theorem Pq:Go.Lib.asciiSpaceTab=v7:=by decide
theorem M5:Go.Lib.fields [105,110,116,32,118,97,114,32,102,117,110,99,32,105,102,32,101,108,115,101,32,119,104,105,108,101,32,114,101,116,117,114,110,32,124,124,32,38,38,32,61,61,32,33,61,32,60,61,32,62,61,32,60,60,32,62,62,32,40,32,41,32,123,32,125,32,91,32,93,32,44,32,59,32,61,32,60,32,62,32,43,32,45,32,42,32,47,32,37,32,38,32,124,32,94,32,33,32,126]=oG:=by decide +kernel
open Go.Im (lf)
theorem pF.Ah{P:Program}{f:FuncId}{vs:List Value}{w:World}{R:Value->World->Prop}(h:Calls P f vs.toArray w fun e w'=>∃v,e=.returned v/\R v w'):pF P f vs w R:=h
theorem Qa:GF prog 305 [.v (sv [105,110,116,32,118,97,114,32,102,117,110,99,32,105,102,32,101,108,115,101,32,119,104,105,108,101,32,114,101,116,117,114,110,32,124,124,32,38,38,32,61,61,32,33,61,32,60,61,32,62,61,32,60,60,32,62,62,32,40,32,41,32,123,32,125,32,91,32,93,32,44,32,59,32,61,32,60,32,62,32,43,32,45,32,42,32,47,32,37,32,38,32,124,32,94,32,33,32,126])] [] (strs oG) []:=by
 have:=GF.abj (P:=prog) (f:=305) (vs:=[sv [105,110,116,32,118,97,114,32,102,117,110,99,32,105,102,32,101,108,115,101,32,119,104,105,108,101,32,114,101,116,117,114,110,32,124,124,32,38,38,32,61,61,32,33,61,32,60,61,32,62,61,32,60,60,32,62,62,32,40,32,41,32,123,32,125,32,91,32,93,32,44,32,59,32,61,32,60,32,62,32,43,32,45,32,42,32,47,32,37,32,38,32,124,32,94,32,33,32,126]]) (us:=oG.map sv) (E:=9) fun K r w M n=>?_
 ·rw[List.map_map]at this;exact this
 ·obtain⟨E,z,l⟩:=tB.all M n M.spc (zs:=v7.map fun z=>Value.int .u8 z) aR (fun m o x hx=>by
   rw[dB]at hx;unfold zI;rw[ae aR,ae aR,ak rfl]
   cases G:v7[o]? with
   |none=>rw[G]at hx;cases hx
   |some y=>rw[G]at hx;cases hx;rfl)
  have Q:Go.Lib.TabIs prog w "strings.asciiSpace" .u8 Go.Lib.asciiSpaceTab:=by
   unfold Go.Lib.TabIs World.var?;rw[show prog.globalNamed "strings.asciiSpace" = some 1 by kernel_rfl,Pq];simp only[Option.bind_some,l]
  have h:=strings_Fields_laid ⟨[105,110,116,32,118,97,114,32,102,117,110,99,32,105,102,32,101,108,115,101,32,119,104,105,108,101,32,114,101,116,117,114,110,32,124,124,32,38,38,32,61,61,32,33,61,32,60,61,32,62,61,32,60,60,32,62,62,32,40,32,41,32,123,32,125,32,91,32,93,32,44,32,59,32,61,32,60,32,62,32,43,32,45,32,42,32,47,32,37,32,38,32,124,32,94,32,33,32,126].toArray⟩ w aR (fun j b i=>by
   have:∀b∈([105,110,116,32,118,97,114,32,102,117,110,99,32,105,102,32,101,108,115,101,32,119,104,105,108,101,32,114,101,116,117,114,110,32,124,124,32,38,38,32,61,61,32,33,61,32,60,61,32,62,61,32,60,60,32,62,62,32,40,32,41,32,123,32,125,32,91,32,93,32,44,32,59,32,61,32,60,32,62,32,43,32,45,32,42,32,47,32,37,32,38,32,124,32,94,32,33,32,126]:List UInt8),b.toNat<128:=by decide
   exact this b (bP i)) Q
  refine pF.Ah (Calls.mono h ?_);rintro e Z⟨q,c⟩;rw[show((⟨[105,110,116,32,118,97,114,32,102,117,110,99,32,105,102,32,101,108,115,101,32,119,104,105,108,101,32,114,101,116,117,114,110,32,124,124,32,38,38,32,61,61,32,33,61,32,60,61,32,62,61,32,60,60,32,62,62,32,40,32,41,32,123,32,125,32,91,32,93,32,44,32,59,32,61,32,60,32,62,32,43,32,45,32,42,32,47,32,37,32,38,32,124,32,94,32,33,32,126].toArray⟩:ByteArray).data.toList)=[105,110,116,32,118,97,114,32,102,117,110,99,32,105,102,32,101,108,115,101,32,119,104,105,108,101,32,114,101,116,117,114,110,32,124,124,32,38,38,32,61,61,32,33,61,32,60,61,32,62,61,32,60,60,32,62,62,32,40,32,41,32,123,32,125,32,91,32,93,32,44,32,59,32,61,32,60,32,62,32,43,32,45,32,42,32,47,32,37,32,38,32,124,32,94,32,33,32,126]from rfl,M5]at q c;exact⟨_,q,by rw[ct],c⟩
theorem Vv:GF prog 239 [] [] (strs oG) []:=by
 have h:=Qa;generalize oG=l at *;refine au func239 ntmps239 ?_;exact zcJ
theorem wK(s:ab):GF prog 182 [.v (sv s)] [] (.v (.bool (lf s))) []:=by
 have h:=Vv;have W:=iL oG s aR;unfold lf;generalize oG=l at *;refine au func182 ntmps182 ?_;refine D [] h ?_;exact zbq
open Go.Sp (jB ij)
open Go.Im (dQ kA kz oi mW uh nj)
theorem RU(s:ab)(a:Nat)(c:UInt8)(G:s.length<=1099511627776)(W:s[a]?=some c):GF prog 252 [.v (sv s),.v (ii (a:Nat))] [] (.v (sv (kz s a))) []:=by
 have O:a<s.length:=(bY W).1;have z:=wV c;refine au func252 ntmps252 ?_;refine GW.loop (fun x:Nat=>x) (fun x J u=>J=.v (sv s)::.v (ii (a:Nat))::U::U::U::.v (ii (x:Nat))::zU 32 []/\u=[]/\x<=2/\∀j,x<j->j<=2->kA s a j=false) 2 ?_ ?_
 ·exact⟨_,_,Wk.aZ az,rfl,rfl,aY _,fun j q b=>by omega⟩
 ·rintro x _ _⟨rfl,rfl,hx,i⟩
  have l:∀k,x=k+1->kA s a x=false->∀j,k<j->j<=2->kA s a j=false:=fun k R M j q b=>by
   grind
  have o:∀k,kA s a k=(decide (a+k<=s.length)&&!(small c)&&lf (dQ s a (a+k))):=fun k=>by grind[kA]
  match x,hx,i,l with
  |0,_,i,_ =>
   have e:kz s a=[]:=by grind[kz]
   rw[e];exact zc4
  |1,_,i,l =>
   have N:decide (((a+1:Nat):Int)<=(s.length:Int))=true:=by grind
   have m:a<=a+1/\a+1<=s.length:=by omega
   have M:=o 1;rw[show decide (a+1<=s.length)=true from decide_eq_true V]at M
   cases H:small c with
   |true =>
    rw[H]at z M;refine zcz ?_;exact zeh
   |false =>
    rw[H]at z M;have Q:=wK (dQ s a (a+1))
    cases X:lf (dQ s a (a+1))with
    |false =>
     rw[X]at Q M;refine zcz ?_;refine D [] Q ?_;exact zeh
    |true =>
     rw[X]at Q M
     have e:kz s a=dQ s a (a+1):=by grind[kz]
     rw[e];refine zcz ?_;refine D [] Q ?_;exact ay
  |2,_,i,l =>
   have M:=o 2
   by_cases t:a+2<=s.length
   ·have N:decide (((a+2:Nat):Int)<=(s.length:Int))=true:=by grind
    have m:a<=a+2/\a+2<=s.length:=by omega
    rw[show decide (a+2<=s.length)=true by grind]at M
    cases H:small c with
    |true =>
     rw[H]at z M;refine zcz ?_;exact zci
    |false =>
     rw[H]at z M;have Q:=wK (dQ s a (a+2))
     cases X:lf (dQ s a (a+2))with
     |false =>
      rw[X]at Q M;refine zcz ?_;refine D [] Q ?_;exact zci
     |true =>
      rw[X]at Q M
      have e:kz s a=dQ s a (a+2):=by grind[kz]
      rw[e];refine zcz ?_;refine D [] Q ?_;exact ay
   ·have N:decide (((a+2:Nat):Int)<=(s.length:Int))=false:=by grind
    rw[show decide (a+2<=s.length)=false by grind]at M;refine I ?_;exact zci
  |n+3,hx,_,_=>omega
def LB(n:Int)(e:Nat)(a:Nat):GV:=if n>2147483647 then .tup [.agg (dp uh),.v (ii (a:Nat)),.v (ii 3)]else .tup [.agg (dp ⟨1,n,[],a⟩),.v (ii (e:Nat)),.v (ii 0)]
theorem PD(s:ab)(a:Nat)(c:UInt8)(G:s.length<=1099511627776)(X:s[a]?=some c)(hd:eM c=true) :
  GF prog 198 [.v (sv s),.v (ii (a:Nat))] [] (LB (mW (dQ s a (oi s a)) 0) (oi s a) a) []:=by
 have Y:a<s.length:=(bY X).1;have J:=yC c;rw[hd]at J;have N:=LO 238 eM yC s a G V;have⟨A,W,B⟩:=Go.Sp.lU s eM (s.length+1) a V V;have z:=Go.Im.CH s eM (s.length+1) a V;unfold oi;generalize Go.Sp.run s eM (s.length+1) a=e at *;clear A;generalize m:mW (dQ s a e) 0=R;refine au func198 ntmps198 ?_;refine D [] J ?_;refine D [] N ?_;refine GW.loop (fun x:Nat × Int=>e-x.1) (fun x M H=>M=.v (sv s)::.v (ii (a:Nat))::U::U::.loc 0 0::.v (ii 0)::.v (ii 0)::U::.v (ii (e:Nat))::.v (ii x.2)::.v (ii (x.1:Nat))::zU 70 []/\H=[.box 205 (dp uh)]/\a<=x.1/\x.1<=e/\mW (dQ s x.1 e) x.2=R/\0<=x.2/\x.2<=21474836480) (a,0) ?_ ?_
 ·exact⟨_,_,Wk.aZ az,rfl,rfl,aY _,W,m,by simp,by simp⟩
 ·rintro⟨i,n⟩_ _⟨rfl,rfl,F,T,h,u,w⟩;simp only at F T h u w
  have j:R=n->True:=fun _=>trivial
  by_cases Q:i<e
  ·have o:decide ((i:Int)<(e:Int))=true:=by grind
   by_cases l:n<=2147483647
   ·have q:decide (n<=2147483647)=true:=by grind
    have C:i<s.length:=by omega
    obtain⟨d,S⟩:∃d,s[i]?=some d:=⟨s[i],by simp[C]⟩
    have E:eM d=true:=by
     have:d∈dQ s a e:=by
      unfold dQ;rw[List.mem_iff_getElem?];exact⟨i-a,by grind⟩
     grind
    have t:(48:Int)<=(d.toNat:Int)/\(d.toNat:Int)<=57:=by
     simp_all[eM,aI,decide_eq_true_eq]
    rw[Go.Im.qp S Q B,mW,ak l]at h;refine I ?_;exact⟨(i+1,10*n+((d.toNat:Int)-48)),⟨_,_,Wk.aZ az,rfl,rfl,by omega,Q,h,by omega,by omega⟩,by omega⟩
   ·have q:decide (n<=2147483647)=false:=by grind
    have O:R=n:=by
     rw[<-h]
     cases Z:dQ s i e with
     |nil=>rw[mW]
     |cons d r=>grind[mW]
    rw[O];clear h O m j
    have k:decide (2147483647<n)=true:=by grind
    unfold LB;rw[ak V];exact zeF
  ·have o:decide ((i:Int)<(e:Int))=false:=by grind
   have O:R=n:=by
    grind[dQ,ll,Go.Im.tH,mW]
   rw[O];clear h O m j;unfold LB
   by_cases l:n>2147483647
   ·have k:decide (2147483647<n)=true:=by grind
    rw[ak l];exact zeF
   ·have k:decide (2147483647<n)=false:=by grind
    rw[ae l];exact zeF
theorem VU(s:ab)(a:Nat)(c:UInt8)(G:s.length<=1099511627776)(W:s[a]?=some c) :
  GF prog 198 [.v (sv s),.v (ii (a:Nat))] [] (.tup [.agg (dp (nj s a c).1),.v (ii ((nj s a c).2.1:Nat)),.v (ii (nj s a c).2.2)]) []:=by
 have O:a<s.length:=(bY W).1;have J:=yC c;have z:=wV c
 by_cases T:eM c=true
 ·have h:=PD s a c G W T;unfold LB at h;unfold nj
  grind
 ·have t:eM c=false:=by grind
  unfold nj;rw[ae T];rw[t]at J
  by_cases H:small c=true
  ·rw[ak H];rw[H]at z;have N:=LO 181 et Be s a G V;have⟨w,R,q⟩:=Go.Sp.lU s et (s.length+1) a V V;have l:jB s a=(s.take (ij s a)).drop a:=rfl;have Q:=wK (jB s a);unfold ij at l |-;rw[l]at Q |-;generalize Go.Sp.run s et (s.length+1) a=e at *;have j:a<=e/\e<=s.length:=⟨R,q⟩
   cases X:lf ((s.take e).drop a)with
   |true =>
    exact zct
   |false =>
    exact zct
  ·have M:small c=false:=by grind
   rw[ae H];rw[M]at z;have i:=RU s a c G W
   have d:(kz s a).length<=2:=by
    grind[dQ,sa,mf,kz]
   generalize kz s a=x at *
   by_cases hx:x=[]
   ·have C:(x==[])=true:=by grind
    rw[ak hx];exact zcQ
   ·have C:(x==[])=false:=by grind
    rw[ae hx];exact zcQ
open Go.Xp (Tok)
open Go.Sp (cw fA)
open Go.Im (qh u5)
def Cp(x t:ab):Bool:=decide (t.length<=x.length)&&(x.take t.length==t)
theorem KH(x t:ab)(hx:x.length<=1099511627776)(M:t.length<=1099511627776):GF prog 250 [.v (sv x),.v (sv t)] [] (.v (.bool (Cp x t))) []:=by
 unfold Cp
 by_cases h:t.length<=x.length
 ·have o:decide ((t.length:Int)<=(x.length:Int))=true:=by grind
  rw[decide_eq_true h];refine au func250 ntmps250 ?_;exact ay
 ·have o:decide ((t.length:Int)<=(x.length:Int))=false:=by grind
  rw[decide_eq_false h];refine au func250 ntmps250 ?_;refine bB ?_
  grind[bD]
theorem HD(x t:ab)(hx:x.length<=1099511627776)(M:t.length<=1099511627776):GF prog 196 [.v (sv x),.v (sv t)] [] (.v (.bool (Cp x t))) []:=by
 have h:=KH x t hx M;generalize Cp x t=b at *;refine au func196 ntmps196 ?_;refine D [] h ?_;refine bB ?_
 grind[bD]
theorem HM{s t:ab}{a:Nat}(ha:a<=s.length):Cp (s.drop a) t=cw s a t:=by
 grind[Cp,cw]
theorem HE(c:UInt8):GF prog 195 [.v (sv [32,9,10,13]),Da c] [] (.v (ii (Go.Lib.indexByte [32,9,10,13] c))) []:=by
 refine GF.XT (vs:=[sv [32,9,10,13],.int .u8 (c.toNat:Int)]) fun K m w M l=>?_
 refine pF.Ah (Calls.mono (strings_IndexByte ⟨[32,9,10,13].toArray⟩ (c.toNat:Int) w) ?_);simp[Ext.refl]
theorem Qd(x:ab)(hx:x.length<=4294967280):GF prog 197 [.v (sv x),.v (sv [42,47])] [] (.v (ii (Go.Lib.index x [42,47]))) []:=by
 refine GF.XT (vs:=[sv x,sv [42,47]]) fun K n w M l=>?_
 have⟨m,j⟩:=M.maxLen l;refine pF.Ah (Calls.mono (strings_Index ⟨x.toArray⟩ ⟨[42,47].toArray⟩ m w (by show(x.toArray).size<_;grind) j) ?_)
 grind[Ext.refl]
theorem Qq(c:UInt8):decide ((0:Int)<=Go.Lib.indexByte [32,9,10,13] c)=fA c:=by
 have i:fA c=((32:UInt8)==c ||(9:UInt8)==c ||(10:UInt8)==c ||(13:UInt8)==c):=by
  have e:∀k:UInt8,((c.toNat:Int)==(k.toNat:Int))=(k==c):=fun k=>by
   grind[UInt8.toNat_inj]
  have w:=e 32;have R:=e 9;have q:=e 10;have E:=e 13
  grind[fA]
 rw[i];unfold Go.Lib.indexByte Go.Lib.indexByte Go.Lib.indexByte Go.Lib.indexByte Go.Lib.indexByte
 grind
theorem N7(l:ab):Go.Lib.index l [42,47]=(match u5 l with|none => -1|some n=>(n:Int)):=by
 induction l with
 |nil=>rfl
 |cons b l O =>
  rw[Go.Lib.index,u5]
  grind
theorem Rk(s:ab)(f:Nat)(ts:List Tok)(c z:Int)(hs:s.length<=4294967280)(h:qh s f 0 []=some (ts,c,z)) :
  GF prog 128 [.v (sv s)] [] (.tup [iv ts,.v (ii c),.v (ii z)]) []:=by
 refine au func128 ntmps128 ?_;refine GW.wk (Wk.Cz (t:=5) (a:=none) (c:=0) 205 4 rfl) ?_;refine GW.loop (fun x:Nat × Nat × List Tok=>x.1) (fun x Q Γ=>∃n d,Q=.v (sv s)::U::.v (.slice none 0 0)::.v (ii 0)::.v (ii 0)::.vec 0 n::.v (ii (x.2.1:Nat))::zU 48 []/\Γ=[.vec 205 4 0 d]/\d.length=n/\d=x.2.2.map dp/\x.2.1<=s.length/\n<=x.2.1/\qh s x.1 x.2.1 x.2.2=some (ts,c,z)) (f,0,[]) ?_ ?_
 ·exact⟨_,_,Wk.aZ az,0,[],rfl,rfl,rfl,rfl,bp _,aY _,h⟩
 ·clear h;rintro⟨f,a,o⟩_ _⟨n,d,rfl,rfl,C,i,O,N,h⟩;simp only at i O N h
  cases f with
  |zero=>cases h
  |succ f =>
  rw[qh]at h
  cases u:s[a]? with
  |none =>
   rw[u]at h;cases h;have X:s.length<=a:=oP u
   have T:decide ((a:Int)<(s.length:Int))=false:=by grind
   refine eC ?_;refine GW.wk (Wk.jx (t:=5) rfl rfl rfl C) ?_;refine I ?_;refine C0 ?_;exact⟨by rw[i];rfl,rfl⟩
  |some q =>
   rw[u]at h;simp only at h;have M:a<s.length:=(bY u).1
   have T:decide ((a:Int)<(s.length:Int))=true:=by grind
   have k:=HE q;have w:=Qq q
   cases F:fA q with
   |true =>
    rw[ak F]at h;rw[F]at w;generalize Go.Lib.indexByte [32,9,10,13] q=Y at *;refine I ?_;refine D [] k ?_;refine jE ?_;exact⟨(f,a+1,o),⟨_,_,Wk.aZ az,n,d,rfl,rfl,C,i,M,by grind,h⟩,by simp⟩
   |false =>
    rw[ae zff]at h;rw[F]at w;generalize Go.Lib.indexByte [32,9,10,13] q=Y at *;have b:=HD (s.drop a) [47,42] zff aR;rw[HM O]at b
    cases m:cw s a [47,42]with
    |true =>
     rw[ak m]at h;rw[m]at b;have G:=Go.Sp.nD m;simp only[length_cons,length_nil]at G;have l:=Qd (s.drop (a+2)) zff;rw[N7]at l
     have S:a+2<=s.length:=by omega
     cases J:u5 (s.drop (a+2))with
     |none =>
      rw[J]at l h;cases h;refine zer ?_;refine D [] l ?_;exact zdY
     |some e =>
      rw[J]at l h;have H:=Go.Im.Cq J;rw[sa]at H
      have W:decide (((e:Nat):Int)<0)=false:=by simp
      refine zer ?_;refine D [] l ?_;refine jE ?_;exact⟨(f,a+(e+4),o),⟨_,_,Wk.aZ az,n,d,rfl,rfl,C,i,by grind,by grind,h⟩,by simp⟩
    |false =>
     rw[ae zff]at h;rw[m]at b;have r:=VU s a q V u
     have A:=fun B=>Go.Im.Ko u B
     generalize nj s a q=R at *;have⟨t,e,j⟩:=R;simp only at r h A
     by_cases B:j=0
     ·rw[ae V]at h
      have E:(j != 0)=false:=by grind
      have⟨_,_,k3,Z⟩:=A B;refine zer ?_;refine D [] r ?_;refine zbD ?_;exact⟨(f,e,o++[t]),⟨_,_,(Wk.cut (n:=1) (ek rfl) rfl).trans (Wk.aZ az),_,_,rfl,rfl,by simp[C],by rw[gJ,i];rfl,Z,by grind,h⟩,by simp⟩
     ·rw[ak B]at h
      have E:(j != 0)=true:=by grind
      cases h;refine zer ?_;refine D [] r ?_;exact zdY
open Go.Xp (T aU)
open Go.Im (eG iG)
theorem Q0:∀(N:Nat)(t:T),aU t<=N->aU t<=1099511627776->GF prog 124 [uT t] [] (.v (.bool (iG t))) []:=by
 intro N
 induction N with
 |zero=>intro t h;exact zed
 |succ N ih =>
 intro t hN hb;rw[Go.Xp.eI]at hN hb;have zr:=Go.Xp.eP t.aw;have w:=y5 t.aw;rw[Go.Im.vD,Go.Im.qd];unfold uT;generalize t.n.ai=c;refine dc func124 ntmps124 ?_;refine y9 ?_;refine GW.join (fun F R=>F=.box [.v (ii c),.v (ii t.n.at_),.v (ii t.n.n),.v (sv t.n.s),ints t.n.aw,.sl 1 (cW t.aw)] 0::U::U::U::.v (.bool (eG c t.aw.length))::zU 59 []/\R=[]) ?_ ?_
 ·rw[<-w];generalize(cW t.aw)=l
  by_cases h1:c=1
  ·subst h1
   have cL:((1:Int)==1)=true:=by decide
   rw[show eG 1 l.length=((l.length:Int)==0) by rfl];exact fq
  by_cases h2:c=2
  ·subst h2
   have cL:((2:Int)==1)=false:=by decide
   have lC:((2:Int)==2)=true:=by decide
   rw[show eG 2 l.length=((l.length:Int)==0) by rfl];exact fq
  by_cases h4:c=4
  ·subst h4
   have cL:((4:Int)==1)=false:=by decide
   have lC:((4:Int)==2)=false:=by decide
   have m:((4:Int)==4)=true:=by decide
   rw[show eG 4 l.length=true by rfl];exact fq
  by_cases O:c=14
  ·subst O
   have cL:((14:Int)==1)=false:=by decide
   have lC:((14:Int)==2)=false:=by decide
   have m:((14:Int)==4)=false:=by decide
   have d:((14:Int)==14)=true:=by decide
   rw[show eG 14 l.length=true by rfl];exact fq
  by_cases h3:c=3
  ·subst h3
   have cL:((3:Int)==1)=false:=by decide
   have lC:((3:Int)==2)=false:=by decide
   have m:((3:Int)==4)=false:=by decide
   have d:((3:Int)==14)=false:=by decide
   have nE:((3:Int)==3)=true:=by decide
   rw[show eG 3 l.length=((l.length:Int)==1) by rfl];exact fq
  by_cases h5:c=5
  ·subst h5
   have cL:((5:Int)==1)=false:=by decide
   have lC:((5:Int)==2)=false:=by decide
   have m:((5:Int)==4)=false:=by decide
   have d:((5:Int)==14)=false:=by decide
   have nE:((5:Int)==3)=false:=by decide
   have q:((5:Int)==5)=true:=by decide
   rw[show eG 5 l.length=((l.length:Int)==1) by rfl];exact fq
  by_cases h7:c=7
  ·subst h7
   have cL:((7:Int)==1)=false:=by decide
   have lC:((7:Int)==2)=false:=by decide
   have m:((7:Int)==4)=false:=by decide
   have d:((7:Int)==14)=false:=by decide
   have nE:((7:Int)==3)=false:=by decide
   have q:((7:Int)==5)=false:=by decide
   have u:((7:Int)==7)=true:=by decide
   rw[show eG 7 l.length=((l.length:Int)==1) by rfl];exact fq
  by_cases H:c=11
  ·subst H
   have cL:((11:Int)==1)=false:=by decide
   have lC:((11:Int)==2)=false:=by decide
   have m:((11:Int)==4)=false:=by decide
   have d:((11:Int)==14)=false:=by decide
   have nE:((11:Int)==3)=false:=by decide
   have q:((11:Int)==5)=false:=by decide
   have u:((11:Int)==7)=false:=by decide
   have i:((11:Int)==11)=true:=by decide
   rw[show eG 11 l.length=((l.length:Int)==1) by rfl];exact fq
  by_cases J:c=12
  ·subst J
   have cL:((12:Int)==1)=false:=by decide
   have lC:((12:Int)==2)=false:=by decide
   have m:((12:Int)==4)=false:=by decide
   have d:((12:Int)==14)=false:=by decide
   have nE:((12:Int)==3)=false:=by decide
   have q:((12:Int)==5)=false:=by decide
   have u:((12:Int)==7)=false:=by decide
   have i:((12:Int)==11)=false:=by decide
   have j:((12:Int)==12)=true:=by decide
   rw[show eG 12 l.length=((l.length:Int)==1) by rfl];exact fq
  by_cases M:c=13
  ·subst M
   have cL:((13:Int)==1)=false:=by decide
   have lC:((13:Int)==2)=false:=by decide
   have m:((13:Int)==4)=false:=by decide
   have d:((13:Int)==14)=false:=by decide
   have nE:((13:Int)==3)=false:=by decide
   have q:((13:Int)==5)=false:=by decide
   have u:((13:Int)==7)=false:=by decide
   have i:((13:Int)==11)=false:=by decide
   have j:((13:Int)==12)=false:=by decide
   have o:((13:Int)==13)=true:=by decide
   rw[show eG 13 l.length=((l.length:Int)==1) by rfl];exact fq
  by_cases h6:c=6
  ·subst h6
   have cL:((6:Int)==1)=false:=by decide
   have lC:((6:Int)==2)=false:=by decide
   have m:((6:Int)==4)=false:=by decide
   have d:((6:Int)==14)=false:=by decide
   have nE:((6:Int)==3)=false:=by decide
   have q:((6:Int)==5)=false:=by decide
   have u:((6:Int)==7)=false:=by decide
   have i:((6:Int)==11)=false:=by decide
   have j:((6:Int)==12)=false:=by decide
   have o:((6:Int)==13)=false:=by decide
   have E:((6:Int)==6)=true:=by decide
   rw[show eG 6 l.length=((l.length:Int)==2) by rfl];exact fq
  by_cases h8:c=8
  ·subst h8
   have cL:((8:Int)==1)=false:=by decide
   have lC:((8:Int)==2)=false:=by decide
   have m:((8:Int)==4)=false:=by decide
   have d:((8:Int)==14)=false:=by decide
   have nE:((8:Int)==3)=false:=by decide
   have q:((8:Int)==5)=false:=by decide
   have u:((8:Int)==7)=false:=by decide
   have i:((8:Int)==11)=false:=by decide
   have j:((8:Int)==12)=false:=by decide
   have o:((8:Int)==13)=false:=by decide
   have E:((8:Int)==6)=false:=by decide
   have S:((8:Int)==8)=true:=by decide
   rw[show eG 8 l.length=((l.length:Int)==2) by rfl];exact fq
  by_cases G:c=10
  ·subst G
   have cL:((10:Int)==1)=false:=by decide
   have lC:((10:Int)==2)=false:=by decide
   have m:((10:Int)==4)=false:=by decide
   have d:((10:Int)==14)=false:=by decide
   have nE:((10:Int)==3)=false:=by decide
   have q:((10:Int)==5)=false:=by decide
   have u:((10:Int)==7)=false:=by decide
   have i:((10:Int)==11)=false:=by decide
   have j:((10:Int)==12)=false:=by decide
   have o:((10:Int)==13)=false:=by decide
   have E:((10:Int)==6)=false:=by decide
   have S:((10:Int)==8)=false:=by decide
   have C:((10:Int)==10)=true:=by decide
   rw[show eG 10 l.length=((l.length:Int)==2) by rfl];exact fq
  by_cases h9:c=9
  ·subst h9
   have cL:((9:Int)==1)=false:=by decide
   have lC:((9:Int)==2)=false:=by decide
   have m:((9:Int)==4)=false:=by decide
   have d:((9:Int)==14)=false:=by decide
   have nE:((9:Int)==3)=false:=by decide
   have q:((9:Int)==5)=false:=by decide
   have u:((9:Int)==7)=false:=by decide
   have i:((9:Int)==11)=false:=by decide
   have j:((9:Int)==12)=false:=by decide
   have o:((9:Int)==13)=false:=by decide
   have E:((9:Int)==6)=false:=by decide
   have S:((9:Int)==8)=false:=by decide
   have C:((9:Int)==10)=false:=by decide
   have f9:((9:Int)==9)=true:=by decide
   cases hq:((l.length:Int)==2)with
   |true =>
    rw[show eG 9 l.length=true by grind[eG]];exact fq
   |false =>
    rw[show eG 9 l.length=((l.length:Int)==3) by grind[eG]];exact fq
  have e:eG c l.length=false:=by grind[eG]
  rw[e]
  have g1:(c==1)=false:=by grind
  have g2:(c==2)=false:=by grind
  have g4:(c==4)=false:=by grind
  have g14:(c==14)=false:=by grind
  have g3:(c==3)=false:=by grind
  have g5:(c==5)=false:=by grind
  have g7:(c==7)=false:=by grind
  have X:(c==11)=false:=by grind
  have Y:(c==12)=false:=by grind
  have Z:(c==13)=false:=by grind
  have g6:(c==6)=false:=by grind
  have g8:(c==8)=false:=by grind
  have W:(c==10)=false:=by grind
  have g9:(c==9)=false:=by grind
  exact fq
 ·rintro _ _⟨rfl,rfl⟩;generalize eG c t.aw.length=B;refine I ?_;refine GW.range (cW t.aw).length (fun k F R=>F=U::U::U::U::.v (.bool (B&&(t.aw.take k).all iG))::zU 46 [.sl 1 (cW t.aw),.v (ii ((cW t.aw).length:Int)),.v (ii (k:Nat)),U,U,U,U,U,U,U,U,U,U]/\R=[]) ?_ V ?_ ?_ ?_
  ·refine⟨_,_,Wk.aZ (dh:=U::U::U::U::.v (.bool B)::zU 46 [.sl 1 (cW t.aw),.v (ii ((cW t.aw).length:Int)),.v (ii (0:Nat)),U,U,U,U,U,U,U,U,U,U]) az,?_,rfl⟩;simp
  ·rintro k _ _⟨rfl,rfl⟩;exact dO
  ·rintro k _ _ A⟨rfl,rfl⟩;rw[w]at A;obtain⟨kid,r⟩:∃kid,t.aw[k]?=some kid:=⟨t.aw[k],by simp[A]⟩;have hr:=vU r;have sM:=Go.Xp.r7 r;have hle:=Go.Xp.pL t.aw (k+1);have Q:=ih kid V V
   have z:(t.aw.take (k+1)).all iG=((t.aw.take k).all iG&&iG kid):=by grind[dd]
   rw[z,<-Bool.and_assoc];generalize(B&&(t.aw.take k).all iG)=b at *
   cases b with
   |true =>
    refine I ?_;refine D [] Q ?_;exact zaT
   |false =>
    exact ze4
  ·rintro _ _⟨rfl,rfl⟩;rw[w,dD];exact aK
def w7(l:List T):Int:=match l.findIdx? (fun t=>!(iG t))with|some i=>(i:Int)|none => -1
theorem Oa(t:T)(i:aU t<=1099511627776):GF prog 123 [uT t] [] (.v (.bool (!(iG t)))) []:=by
 have h:=Q0 _ t (aY _) i;generalize iG t=b at *;refine au func123 ntmps123 ?_;refine D [] h ?_;refine bB ?_
 grind[bD]
theorem HG(l:List T)(M:l.length<=1099511627776)(j:∀t∈l,aU t<=1099511627776) :
  GF prog 187 [.sl 1 (cW l),.v (.func (.func 123) #[] #[])] [] (.v (ii (w7 l))) []:=by
 have o:=y5 l;refine au func187 ntmps187 ?_;refine GW.range (cW l).length (fun k J u=>J=[.sl 1 (cW l),.v (.func (.func 123) #[] #[]),U,U,U,U,U,.v (ii ((cW l).length:Int)),.v (ii (k:Nat)),U,U,U,U,U,U,U,U,U,U]/\u=[]/\(l.take k).all iG=true) ?_ V ?_ ?_ ?_
 ·exact lk
 ·exact jA
 ·rintro k _ _ N⟨rfl,rfl,n⟩;rw[o]at N
  have w:l[k]?=some l[k]:=by simp[N]
  have z:=vU w;have i:=Oa l[k] (j _ (getElem_mem N))
  have m:(l.take (k+1)).all iG=((l.take k).all iG&&iG l[k]):=by grind[dd]
  have H:iG l[k]=false->w7 l=(k:Int):=fun q=>by
   grind[iG,List.findIdx?_eq_some_iff_getElem,ea,List.mem_take_iff_getElem,w7]
  generalize l[k]=t at *
  cases O:iG t with
  |true =>
   rw[O]at i m;refine I ?_;refine jW [] i ?_;exact zbJ
  |false =>
   rw[O]at i;rw[H O];refine I ?_;refine jW [] i ?_;exact aK
 ·rintro _ _⟨rfl,rfl,n⟩;rw[o,dD]at n
  have:l.findIdx? (fun t=>!(iG t))=none:=by
   grind
  unfold w7;rw[this];exact aK
theorem Ry(l:List T):decide ((0:Int)<=w7 l)=!(l.all iG):=by
 grind[w7,iG]
theorem u7(l:List T)(M:l.length<=1099511627776)(i:∀t∈l,aU t<=1099511627776) :
  GF prog 122 [.sl 1 (cW l),.v (.func (.func 123) #[] #[])] [] (.v (.bool (!(l.all iG)))) []:=by
 have h:=HG l M i;rw[<-Ry];generalize w7 l=z at *;refine au func122 ntmps122 ?_;exact zcJ
end Go.Xg
