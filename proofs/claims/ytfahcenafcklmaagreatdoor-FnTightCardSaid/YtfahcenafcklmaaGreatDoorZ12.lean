/- Part 12 of proofs that are told in their last texts. -/
import Derived.Test.YtfahcenafcklmaaGreatDoorZ11
import Derived.Lib.Builder
import Derived.Lib.UnsafeStr
import Derived.Test.YtfahcenafcklmaaGreatDoorZ6
import Derived.Test.YtfahcenafcklmaaGreatDoorZ10
import Derived.Laws.OwnMore
import Derived.Test.YtfahcenafcklmaaGreatDoorZ5
open List (cons_append length_cons length_nil)
set_option linter.unusedVariables false
set_option linter.unusedSimpArgs false
set_option maxRecDepth 100000
namespace Go.Xg
open Go.RowKit Go.Xw
class BC (P:Program) (t:TypeId):Prop where
 und:∃ e j,P.underlying t=some (.pointer e)/\P.info? e=some j
theorem BC.mk' {P:Program} {t e:TypeId} (h:P.underlying t=some (.pointer e)) (k:(P.info? e).isSome=true):BC P t:=⟨e,(P.info? e).get k,h,by simp⟩
section
variable {P:Program} {m:Nat} {Q:dL} {fr:List GV} {Γ:List Ob} {ops:Array Oper} {rest:List Oper} {d:Option Tmp} {op:Op} {ty:TypeId} {pos:String} {af:Array Edge}
theorem YG.gZ {x y:Operand} {t t':TypeId} [hT:BC P t] {i o:Nat} (hx:bg fr x=.loc i o) (hy:bg fr y=.v (.pointer none)):YG P (.binOp .eql t x y t') fr Γ (.v (.bool false)):=fun B K β w l hI hF=>by
 have h:=hF.ev x;rw [hx] at h;generalize hv:ev l x=v at h
 cases h with
 | loc _ _ b hb =>
  obtain ⟨e,j,D,I⟩:=hT.und
  have hp:P.pointee t=e:=by simp [Program.pointee,D]
  have:=run_eql_pointer_nil (P:=P) w t (some ⟨b,o,none⟩) (by rw [hp];exact D);refine ⟨_,fun d ty pos af=>?_,.v _⟩;simp [execOp,eqGuard,hv,hF.lO hy,this]
theorem YG.ig {x y:Operand} {t t':TypeId} [hT:BC P t] {i o:Nat} (hx:bg fr x=.loc i o) (hy:bg fr y=.loc i o):YG P (.binOp .neq t x y t') fr Γ (.v (.bool false)):=fun B K β w l hI hF=>by
 have h:=hF.ev x;rw [hx] at h;have h':=hF.ev y;rw [hy] at h';generalize hv:ev l x=v at h;generalize LI:ev l y=v' at h'
 cases h with
 | loc _ _ b hb =>
  cases h' with
  | loc _ _ b' bA =>
   rw [hb] at bA;cases bA;obtain ⟨e,j,D,I⟩:=hT.und;have:=Lib.run_neq_ptr_same (P:=P) w ⟨b,o,none⟩ D I;refine ⟨_,fun d ty pos af=>?_,.v _⟩;simp [execOp,eqGuard,hv,LI,this]
theorem Inv.again {B:Bs} {K:Fz} {β:Bt} {Γ:List Ob} {w w':World} {i E k:Nat} {rows:List (List GV)} {x:Value} {xs:List Value} (h:Inv B K β Γ w) (hi:Γ[i]?=some (.vech E k rows x)) (ho:gV w' 0 E k x rows.length xs) (hr:bm K β xs rows.flatten)
  (hx:Ext (fun b=>x.ownBlock=some b) w w'):Inv B K β Γ w':=by
 obtain ⟨xs0,D,I,h3,h4,h5⟩:=h.ob i _ hi
 have ea:∀ b,x.ownBlock=some b->(β i).has b:=fun b hb=>by rw [D];exact hb
 refine ⟨h.ext.step hx (fun j hj=>(h.own i j (ea j hj)).symm),h.kle,h.ble,h.loc,h.fz.ext hx (fun b o g hg he=>by rw [h5 b he o] at hg;cases hg),fun j y hj=>?_,h.out,h.dis,h.own,h.kn,h.tab.step hx (fun j hj=>⟨i,ea j hj⟩) (cZ.refl K) (fun i b2 h=>.inl ⟨i,h⟩)⟩
 by_cases hji:j=i
 ·subst hji;rw [hi] at hj;cases hj;exact ⟨xs,D,ho,hr,h4,h5⟩
 ·exact (h.ob j y hj).ext hx (fun b hb he=>hji (h.dis j i b hb (ea b he))) (cZ.refl K) (dx.refl β) rfl (fun _ _ _ h=>h)
theorem GL.UK {s x:Operand} {t u e:Nat} [hT:CW P t e] [hU:pQ P u] (i:Nat) {n:Nat} {dt:Tmp} {v:Value} {rows:List (List GV)} {str:ae} (hx:bg fr x=.v (sv str)) (hs:bg fr s=.v v) (bO:Γ[i]?=some (.vech e 1 rows v)) (hn:rows.length=n) (bZ:str.isEmpty=false)
  (hb:n+str.length<=140737488355328)
  (h:∀ a c,GL P m ops Q rest (bK fr (some dt) (.v (.slice a (n+str.length) c))) (oset Γ i (.vech e 1 (rows++bI str) (.slice a (n+str.length) c)))) :
  GL P m ops Q (⟨some dt,.call ⟨.builtin .append,#[s,x],#[t,u]⟩,ty,pos,af,none⟩::rest) fr Γ:=fun B K β w l hm hI hF=>by
 subst hn
 have bZ:str≠[]:=by intro h0;rw [h0] at bZ;cases bZ
 obtain ⟨xs,o1,o2,o3,o4,o5⟩:=hI.ob i _ bO;have vd:ev l s=v:=hF.lO hs
 have pE:(bI str).flatten=str.map fun c=>GV.v (.int .u8 (c.toNat:Int)):=by
  unfold bI;clear hx bZ hb h;generalize str=s
  induction s with
  | nil=>rfl
  | cons c r ih=>simp only [List.map_cons,List.flatten_cons,ih];rfl
 have hlen:(bI str).length=str.length:=by simp [bI]
 refine WL.BI (base:=0) (v:=v) (n:=rows.length) (xs:=xs) (str:=str) vd o2 (hF.lO hx) hb (aY _) ?_;intro v' w' how iJ pF va
 obtain ⟨K',hK,kU,bE⟩:=(hI.Br bO).grow (fz:=0) (pf bO) o1 ⟨o2,o3⟩ (news:=bI str) (ns:=kK str) (by rw [hlen];exact how) iJ pF (by rw [pE];exact (by
   have:(str.map fun c=>GV.v (.int .u8 (c.toNat:Int)))=oy (kK str):=by simp [oy,kK]
   rw [this];exact bm.self)) (fun r hr=>by
   simp only [bI,yJ] at hr;obtain ⟨c,_,rfl⟩:=hr
   exact ⟨rfl,fun g hg=>by rw [List.mem_singleton] at hg;subst hg;rfl⟩) (by intro h0;exact bZ (List.map_eq_nil_iff.1 h0)) (fun b bA o v ho hv=>by omega)
 rw [<-bG,nP] at bE;obtain ⟨a,c,sW,sV⟩:=bE.Oh (pf bO);rw [nP] at sV;obtain ⟨a',c',rfl⟩:=how.shape;rw [bD] at sW;simp only [aJ,hlen] at sW sV kU;cases sW;exact zdG
theorem GL.UJ {s x:Operand} {t u e:Nat} [hT:CW P t e] [hU:pQ P u] (i:Nat) {rows:List (List GV)} {v:Value} (hx:bg fr x=.v (sv [])) (hs:bg fr s=.v v) (bO:Γ[i]?=some (.vech e 1 rows v)) (hb:rows.length<=140737488355328)
  (h:GL P m ops Q rest (bK fr d (.v v)) Γ):GL P m ops Q (⟨d,.call ⟨.builtin .append,#[s,x],#[t,u]⟩,ty,pos,af,none⟩::rest) fr Γ:=fun B K β w l hm hI hF=>by
 obtain ⟨xs,o1,o2,o3,o4,o5⟩:=hI.ob i _ bO;have vd:=hF.lO hs;have xD:=hF.lO hx;obtain ⟨hu,i',hi,hz,fJ,AF⟩:=hT.is;have xA:(⟨([]:ae).toArray⟩:ByteArray).size=0:=rfl;obtain ⟨v',w',hr,I,h3,h4⟩:=Lib.run_append_own_string (P:=P) w 0 t u ty e i' hu hU.und hi hz fJ AF v rows.length xs o2 ⟨([]:ae).toArray⟩ (by rw [xA];simp only [maxLen];omega) (by rw [xA];omega) (aY _)
 have LI:v'=v:=by
  rcases o2.2 with ⟨rfl,h6⟩ | ⟨g,cap,cur,rfl,oM,hg,s9,Da,nD,AP⟩
  ·exact h4.2 ⟨rfl,rfl⟩
  ·have S5:cur.size=cap:=by simpa using nD
   have dT:=Lib.run_append_room_string (P:=P) w t u ty e i' hu hU.und hi fJ g rows.length cap cur hg ⟨([]:ae).toArray⟩ (by rw [xA];omega) (by unfold maxLen at Da;rw [xA];omega);rw [hr] at dT;cases dT;rfl
 subst LI;have oA:(Builtin.append_ #[t,u] ty #[v',sv []]).run P w=.ok v' w':=hr;have nD:Lib.strCells ⟨([]:ae).toArray⟩=[]:=rfl;rw [nD,fk] at I;have iJ:Ext (fun b=>v'.ownBlock=some b) w w':=⟨h3.os,h3.tape,h3.output,h3.size,fun j hj hn=>h3.block j hj fun he=>hn he.symm⟩;have bE:=hI.again bO I o3 iJ;exact WL.val (v:=v') (w':=w') (by simp [execOp,resolve,invoke,builtin,vd,xD,oA]) (h B K β w' _ hm bE (hF.put d (.v _)))
theorem YG.fg {x:Operand} {t:TypeId} (i:Nat) {E n c:Nat} {a:Option Addr} {rows:List (List GV)} (hx:bg fr x=.v (.slice a n c)) (bO:Γ[i]?=some (.vech E 1 rows (.slice a n c))) (hn:rows.length=n) (hp:Nat.blt 0 n=true) :
  YG P (.call ⟨.builtin .unsafeSliceData,#[x],#[t]⟩) fr Γ (.vp i n 1 0 0):=fun B K β w l hI hF=>by
 subst hn
 have hp:0 < rows.length:=by simpa using hp
 obtain ⟨xs,D,I,h3,h4,h5⟩:=hI.ob i _ bO;have hv:=hF.lO hx
 rcases I.2 with ⟨h8,h9⟩ | ⟨g,cap,cur,h8,_,hg,s9,_⟩
 ·omega
 ·cases h8
  have hr:=fun ts ty=>Lib.run_unsafeSliceData_row (P:=P) (w:=w) ts ty ⟨g,0,none⟩ rows.length c X
  exact ⟨.pointer (some ⟨g,0,none⟩),fun d ty pos af=>by simp [execOp,resolve,invoke,builtin,hv,hr],.vp i _ 1 0 0 _ ⟨_,_,D,aD _,fun _=>⟨g,rfl,by simp⟩⟩⟩
theorem GL.MS {x y:Operand} {pt it e:TypeId} (i:Nat) {str:ae} {rows:List (List GV)} {v:Value} (hp:P.underlying pt=some (.pointer e)) (hc:P.cellsOf e=1) (hx:bg fr x=.vp i str.length 1 0 0) (hy:bg fr y=.v (ii str.length)) (bO:Γ[i]?=some (.vech e 1 rows v)) (lE:rows=bI str)
  (bZ:str.isEmpty=false) (hb:str.length<=140737488355328)
  (h:GL P m ops Q rest (bK fr d (.v (sv str))) (oset Γ i .lost)):GL P m ops Q (⟨d,.call ⟨.builtin .unsafeString,#[x,y],#[pt,it]⟩,ty,pos,af,none⟩::rest) fr Γ:=fun B K β w l hm hI hF=>by
 have bZ:str≠[]:=by intro h0;rw [h0] at bZ;cases bZ
 subst lE;obtain ⟨xs,o1,o2,o3,o4,o5⟩:=hI.ob i _ bO
 have hlen:(bI str).length=str.length:=by simp [bI]
 have hr:=hF.ev x;rw [hx] at hr;have TG:=hF.lO hy;generalize hv:ev l x=u at hr
 cases hr with
 | vp _ _ _ _ _ _ hh =>
  obtain ⟨h0,mm,e1,e2,e3⟩:=hh;rw [e1] at o1;cases o1;obtain ⟨b,HE,rfl⟩:=e3 hlen
  rcases o2.2 with ⟨h8,h9⟩ | ⟨g,cap,cur,h8,_,hg,s9,Da,nD,AP⟩
  ·rw [hlen] at h9;exact absurd (gk h9) bZ
  ·subst h8;simp only [Value.ownBlock,Option.some.injEq] at HE;subst HE
   have th:xs=kK str:=by
    have pE:(bI str).flatten=oy (kK str):=by
     have:(bI str).flatten=str.map fun c=>GV.v (.int .u8 (c.toNat:Int)):=by
      unfold bI;generalize str=s
      induction s with
      | nil=>rfl
      | cons c r ih=>simp only [List.map_cons,List.flatten_cons,ih];rfl
     rw [this];simp [oy,kK]
    rw [pE] at o3;apply List.ext_getElem
    ·have:=o3.1;simpa [oy] using this
    ·intro j D I;have:=o3.2 j xs[j] (.v (kK str)[j]) (by simp [D]) (by simp [oy,I]);exact Rel.gS this
   have pZ:∀ j y,str[j]?=some y->w.cell? ((⟨g,0,none⟩:Addr).add j)=some (.int .u8 y.toNat):=fun j y hy=>by
    have:=World.ownsRow.cells (g:=g) o2 rfl j (.int .u8 y.toNat) (by rw [th];simp [kK,hy]);exact this
   have aaa:(bI str).length<=cur.size:=by rw [nD];omega
   have oA:=Lib.run_unsafeString_row (P:=P) w pt it ty e hp hc g cur.size (by simp [World.shape?,hg]) str bZ X X pZ
   have iJ:Ext (·=g) w (w.freeze ⟨g,0,none⟩ str.length):=by
    have:=Lib.below_freeze (Below.refl 0 w) (p:=⟨g,0,none⟩) (aY g) str.length
    exact ⟨this.os,this.tape,this.output,this.size,fun k hk hn=>by
     unfold World.freeze;split
     ·rfl
     ·simp only [Array.getElem?_modify]
      rw [ad (fun he=>hn he.symm)]⟩
   have ea:(β i).has g:=by rw [e1];exact rfl
   have bE:Inv B K β (oset Γ i .lost) (w.freeze ⟨g,0,none⟩ str.length):=by
    refine ⟨hI.ext.step iJ (fun j hj=>by subst hj;exact (hI.own i _ ea).symm),hI.kle,hI.ble,hI.loc,hI.fz.ext iJ (fun b o g' jX he=>by subst he;rw [o5 _ rfl o] at jX;cases jX),fun j y hj=>?_,fun j hj=>hI.out j zfC,hI.dis,hI.own,hI.kn,hI.tab.step iJ (fun j hj=>⟨i,by subst hj;exact ea⟩) (cZ.refl K) (fun i b2 h=>.inl ⟨i,h⟩)⟩;rw [bG,fq] at hj;split at hj
    ·rename_i fA;split at hj
     ·cases hj;subst fA
      intro b bA;rw [e1] at bA;cases bA;have:=rF hg;exact wT this iJ.size
     ·cases hj
    ·rename_i fA;exact (hI.ob j y hj).ext iJ (fun b hb he=>by subst he;exact fA (hI.dis i j _ ea hb)) (cZ.refl K) (dx.refl β) rfl (fun _ _ _ h=>h)
   exact WL.val (v:=sv str) (w':=w.freeze ⟨g,0,none⟩ str.length) (by simp [execOp,resolve,invoke,builtin,hv,TG,oA,sv]) (h B K β _ _ hm bE (hF.put d (.v _)))
theorem Inv.Pw {B:Bs} {K:Fz} {β:Bt} {Γ:List Ob} {w:World} {x:Bk} {y:Ob} (h:Inv B K β Γ w) (hd:∀ b,x.has b->(∀ i,¬ (β i).has b)/\B.w0.heap.size<=b/\(b≠1/\b≠2))
  (ho:jD K (ff β Γ.length x) w Γ.length y) (hold:dx β (ff β Γ.length x)):Inv B K (ff β Γ.length x) (Γ++[y]) w:=by
 refine ⟨h.ext,h.kle,h.ble.trans hold,h.loc,h.fz,fun i z hi=>?_,fun i hi=>?_,fun i j b hi hj=>?_,fun i b hi=>?_,h.kn,⟨h.tab.le,h.tab.pow,h.tab.spc,fun i b hi=>?_⟩⟩
 ·by_cases rD:i < Γ.length
  ·rw [il rD] at hi;exact (h.ob i z hi).ext (S:=gR) (Ext.refl w) (fun _ _ h=>h) (cZ.refl K) hold (bU X) (fun _ _ _ h=>h)
  ·have:i=Γ.length:=by have:=(bh hi).1;simp at this;omega
   subst this;simp at hi;subst hi;exact ho
 ·simp at hi;rw [bU X];exact h.out i X
 ·by_cases D:i=Γ.length <;> by_cases I:j=Γ.length
  ·omega
  ·subst D;rw [bD] at hi;rw [bU I] at hj;exact absurd hj ((hd b hi).1 j)
  ·subst I;rw [bD] at hj;rw [bU D] at hi;exact absurd hi ((hd b hj).1 i)
  ·rw [bU D] at hi;rw [bU I] at hj;exact h.dis i j b hi hj
 ·rcases mu hi with D | D
  ·exact .inr (hd b D).2.1
  ·exact h.own i b D
 ·rcases mu hi with D | D
  ·exact (hd b D).2.2
  ·exact h.tab.free i b D
theorem YG.VF {x lo:Operand} {t e:TypeId} {k:Nat} [hT:nt P t e k] {rows:List (List GV)} {kk:IntKind} {i:Nat} (hx:bg fr x=.sl k rows) (iG:bg fr lo=.v (.int kk i)) (hi:Nat.blt i rows.length=true):YG P (.slice t x (some lo) none none) fr Γ (.sl k (rows.drop i)):=fun B K β w l hI hF=>by
 have hi:i < rows.length:=by simpa using hi
 have h:=hF.ev x;rw [hx] at h;have P1:=hF.lO iG;generalize hv:ev l x=v at h
 cases h with
 | sl0 a c=>simp at hi
 | sl b o c _ _ h hc =>
  refine ⟨.slice (some ⟨b,o+i * k,none⟩) (rows.length - i) (c - i),fun d ty pos af=>?_,?_⟩
  ·have pC:¬ (c=i):=by omega
   have hle:(i:Int)<=(rows.length:Int):=by omega
   simp [execOp,Instr.sliceAt,Instr.slice,Instr.sliceBounds,Instr.sliceBound,asIntOf,hv,P1,run_underlying hT.und,jR hT.siz,pC,Nat.le_of_lt hi,rp]
  ·have:=Rel.sl (K:=K) (β:=β) b (o+i * k) (c - i) k (rows.drop i) (fun j r hr=>?_) ze6
   ·rw [jw] at this;exact this
   ·rw [List.getElem?_drop] at hr;refine ⟨(h (i+j) r hr).1,fun q g hg=>?_⟩;have:=(h (i+j) r hr).2 q g hg;rw [Nat.add_mul] at this;rw [show o+i * k+j * k+q=o+(i * k+j * k)+q by omega];exact this
theorem YG.fw {x lo:Operand} {t e:TypeId} {k:Nat} [hT:nt P t e k] {rows:List (List GV)} {kk:IntKind} {n:Int} (i:Nat) (hx:bg fr x=.sl k rows) (iG:bg fr lo=.v (.int kk n)) (hn:n=(i:Int)) (hi:Nat.blt i rows.length=true):YG P (.slice t x (some lo) none none) fr Γ (.sl k (rows.drop i)):=by
 subst hn;exact YG.VF hx iG hi
end
def qo (a:Int):Int:=IntKind.i64.wrap a
def pS (a b:Int):Int:=IntKind.i64.wrap (((a % 18446744073709551616).toNat &&& (b % 18446744073709551616).toNat:Nat):Int)
def uE (a b:Int):Int:=IntKind.i64.wrap (((a % 18446744073709551616).toNat ^^^ (b % 18446744073709551616).toNat:Nat):Int)
theorem RV (a:Int) : -9223372036854775808<=qo a/\qo a<=9223372036854775807:=by
 unfold qo;rw [IntKind.wrap_i64];omega
theorem zu (a b:Int) (hb:0<=b/\b<=9223372036854775807):0<=pS a b/\pS a b<=b:=by
 unfold pS
 have D:(b % 18446744073709551616).toNat=b.toNat:=by rw [Int.emod_eq_of_lt hb.1 X]
 have I:(a % 18446744073709551616).toNat &&& (b % 18446744073709551616).toNat<=b.toNat:=by rw [D];exact Nat.and_le_right
 rw [IntKind.wrap_i64];omega
theorem Sb (a b:Int):(BitVec.ofInt 64 a &&& BitVec.ofInt 64 b).toNat=(a % 18446744073709551616).toNat &&& (b % 18446744073709551616).toNat:=by rw [BitVec.toNat_and,BitVec.toNat_ofInt,BitVec.toNat_ofInt];rfl
theorem Sc (a b:Int):(BitVec.ofInt 64 a ^^^ BitVec.ofInt 64 b).toNat=(a % 18446744073709551616).toNat ^^^ (b % 18446744073709551616).toNat:=by rw [BitVec.toNat_xor,BitVec.toNat_ofInt,BitVec.toNat_ofInt];rfl
section
variable {P:Program} {fr:List GV} {Γ:List Ob} {x y:Operand} {t t':TypeId} {a b:Int}
theorem YG.R4 (hx:bg fr x=.v (ii a)) (hy:bg fr y=.v (ii b)):YG P (.binOp .add t x y t') fr Γ (.v (ii (qo (a+b)))) :=
 YG.v2 hx hy fun l w h k d ty pos af=>by simp [execOp,eqGuard,h,k,binOp,Op.intArith,qo]
theorem YG.TX (hx:bg fr x=.v (ii a)) (hy:bg fr y=.v (ii b)):YG P (.binOp .mul t x y t') fr Γ (.v (ii (qo (a * b)))) :=
 YG.v2 hx hy fun l w h k d ty pos af=>by simp [execOp,eqGuard,h,k,binOp,Op.intArith,qo]
theorem YG.I6 (hx:bg fr x=.v (ii a)) (hy:bg fr y=.v (ii b)):YG P (.binOp .and t x y t') fr Γ (.v (ii (pS a b))) :=
 YG.v2 hx hy fun l w h k d ty pos af=>by
  simp [execOp,eqGuard,h,k,binOp,Op.intBits,pS,IntKind.bits];exact congrArg (fun n:Nat=>IntKind.i64.wrap (n:Int)) (Sb a b)
theorem YG.UF (hx:bg fr x=.v (ii a)) (hy:bg fr y=.v (ii b)):YG P (.binOp .xor t x y t') fr Γ (.v (ii (uE a b))) :=
 YG.v2 hx hy fun l w h k d ty pos af=>by
  simp [execOp,eqGuard,h,k,binOp,Op.intBits,uE,IntKind.bits];exact congrArg (fun n:Nat=>IntKind.i64.wrap (n:Int)) (Sc a b)
theorem YG.JZ {kk:IntKind} {n:Nat} (hx:bg fr x=.v (ii a)) (hy:bg fr y=.v (.int kk (n:Int))):YG P (.binOp .shr t x y t') fr Γ (.v (ii (a.fdiv (2 ^ min n 64)))) :=
 YG.v2 hx hy fun l w h k d ty pos af=>by
  have:¬ ((n:Int) < 0):=by omega
  simp [execOp,eqGuard,h,k,binOp,Op.shift,this,IntKind.bits]
end
end Go.Xg
set_option maxHeartbeats 4000000
namespace Go.Xg
open Go.RowKit Go.Xw Go.Proofs Tryz
open GV (U)
structure dj where
 i:Nat
 h:Int
abbrev uw (code:ae) (c:dj):List GV:=[.sl 1 (bI code),.v (ii (c.i:Nat)),.v (ii c.h)]
def wc (c:dj):Int:=qo (qo (c.h * 6364136223846793005)+1442695040888963407)
def Cc (h:Int):Int:=pS (uE (h.fdiv (2 ^ min 33 64)) (h.fdiv (2 ^ min 45 64))) 255
def ku (code:ae) (c:dj):Int × dj:=match code[c.i]? with
 | some b=>(pS (Cc (wc c)+((b.toNat:Nat):Int)) 255,⟨c.i+1,wc c⟩)
 | none=>(Cc (wc c),⟨c.i,wc c⟩)
def aW (code:ae) (n:Int) (c:dj):Int × dj :=
 if n<=0 then (0,c) else if n<=256 then ((ku code c).1 % n,(ku code c).2) else
  let a:=ku code c
  let b:=ku code a.2
  let d:=ku code b.2
  let e:=ku code d.2
  ((a.1 * 16777216+b.1 * 65536+d.1 * 256+e.1) % n,e.2)
theorem Fw (h:Int):0<=Cc h/\Cc h<=255:=zu _ _ ⟨by omega,by omega⟩
theorem tW (code:ae) (c:dj):0<=(ku code c).1/\(ku code c).1<=255:=by
 unfold ku;split
 ·exact zu _ _ ⟨by omega,by omega⟩
 ·exact Fw _
theorem pn {code:ae} {c:dj} (h:c.i<=code.length):(ku code c).2.i<=code.length:=by
 unfold ku;split
 ·rename_i hb;exact (bh hb).1
 ·exact h
theorem cP {code:ae} {c:dj} (n:Int) (h:c.i<=code.length):(aW code n c).2.i<=code.length:=by
 unfold aW;split
 ·exact h
 split
 ·exact pn h
 ·exact pn (pn (pn (pn h)))
theorem cQ (code:ae) {n:Int} (c:dj) (h:0 < n):0<=(aW code n c).1/\(aW code n c).1 < n:=by
 unfold aW;rw [ad X];split
 ·exact ⟨Int.emod_nonneg _ X,Int.emod_lt_of_pos _ h⟩
 ·exact ⟨Int.emod_nonneg _ X,Int.emod_lt_of_pos _ h⟩
theorem Hp {s:ae} {i:Nat} {b:UInt8} (h:s[i]?=some b):(bI s)[i]?=some [.v (.int .u8 (b.toNat:Nat))]:=by simp [bI,h]
theorem tV (s:ae):(bI s).length=s.length:=by simp [bI]
attribute [local irreducible] GW GL GO YG GC GA bu bs pS uE qo
theorem ud (code:ae) (c:dj) (hl:code.length<=1099511627776) (hc:c.i<=code.length) :
  GF prog 134 [.loc 0 0] [.box 103 (uw code c)] (.v (ii (ku code c).1)) [.box 103 (uw code (ku code c).2)]:=by
 have hm:=Fw (wc c);have gD:=tV code;unfold ku
 cases hb:code[c.i]? with
 | some b =>
  have ar:=(bh hb).1;have hr:=Hp hb;have YW:b.toNat < 256:=b.toNat_lt
  have hd:decide ((c.i:Int) < ((bI code).length:Int))=true:=by rw [gD];simpa using ar
  simp only;unfold uw;simp only;unfold Cc wc at *;refine aj func134 ntmps134 ?_;refine zcE ?_;refine aq ?_;refine OP rfl (fun Γ=>YG.JZ (n:=33) rfl rfl) ?_;refine kv ?_;refine aq ?_;refine OP rfl (fun Γ=>YG.JZ (n:=45) rfl rfl) ?_;refine kv ?_;refine OP rfl (fun Γ=>YG.UF rfl rfl) ?_;refine kv ?_;refine OP rfl (fun Γ=>YG.I6 rfl rfl) ?_;refine kv ?_;refine bF ?_;refine aS (aC 0 10 .nil) ?_;refine bF ?_;refine aS (aC 0 15 .nil) ?_;refine aq ?_;refine OP rfl (fun Γ=>YG.I6 rfl rfl) ?_;refine kv ?_;exact zbG
 | none =>
  have hO:=nZ hb
  have hd:decide ((c.i:Int) < ((bI code).length:Int))=false:=by rw [gD];simpa using hO
  simp only;unfold uw;simp only;unfold Cc wc at *;refine aj func134 ntmps134 ?_;refine zcE ?_;refine aq ?_;refine OP rfl (fun Γ=>YG.JZ (n:=33) rfl rfl) ?_;refine kv ?_;refine aq ?_;refine OP rfl (fun Γ=>YG.JZ (n:=45) rfl rfl) ?_;refine kv ?_;refine OP rfl (fun Γ=>YG.UF rfl rfl) ?_;refine kv ?_;refine OP rfl (fun Γ=>YG.I6 rfl rfl) ?_;refine kv ?_;refine bF ?_;refine aS (aC 0 10 .nil) ?_;exact zbG
theorem dB (code:ae) (n:Int) (c:dj) (hl:code.length<=1099511627776) (hc:c.i<=code.length) :
  GF prog 77 [.loc 0 0,.v (ii n)] [.box 103 (uw code c)] (.v (ii (aW code n c).1)) [.box 103 (uw code (aW code n c).2)]:=by
 unfold aW;have D:=ud code c hl hc;have r1:=tW code c;have i1:=pn hc;generalize ku code c=a at *;obtain ⟨x,c1⟩:=a;simp only at D r1 i1 |-
 by_cases sZ:n<=0
 ·have hd:decide (n<=(0:Int))=true:=by simpa using sZ
  rw [ah sZ];refine aj func77 ntmps77 ?_;exact ao
 ·have hd:decide (n<=(0:Int))=false:=by simpa using sZ
  rw [ad sZ]
  by_cases ub:n<=256
  ·have PO:decide (n<=(256:Int))=true:=by simpa using ub
   rw [ah ub];refine aj func77 ntmps77 ?_;refine V [0] D ?_;exact ao
  ·have PO:decide (n<=(256:Int))=false:=by simpa using ub
   rw [ad ub];have I:=ud code c1 hl i1;have r2:=tW code c1;have i2:=pn i1;generalize ku code c1=a at *;obtain ⟨y,c2⟩:=a;simp only at I r2 i2 |-;have h3:=ud code c2 hl i2;have r3:=tW code c2;have i3:=pn i2;generalize ku code c2=a at *;obtain ⟨z,c3⟩:=a;simp only at h3 r3 i3 |-;have h4:=ud code c3 hl i3;have r4:=tW code c3;generalize ku code c3=a at *;obtain ⟨w,c4⟩:=a;simp only at h4 r4 |-;refine aj func77 ntmps77 ?_;refine V [0] D ?_;refine V [0] I ?_;refine V [0] h3 ?_;refine V [0] h4 ?_;exact ao
theorem Fb (code:ae) (hl:code.length<=1099511627776) :
  GC prog 40 [.sl 1 (bI code)] [] fun g Δ=>∃ h,g=.loc 0 0/\Δ=[.box 103 (uw code ⟨0,h⟩)]:=by
 have gD:=tV code;refine aj func40 ntmps40 ?_;refine GW.loop (fun x:Nat=>code.length - x) (fun i fr Γ=>∃ h:Int,fr=[.sl 1 (bI code),U,U,.v (ii h),.v (ii (i:Nat)),U,U,U,U,U,U,U,U,U,U,U,U,U,U,U,U,U,U,U,U,U,U,U,U,U,U,U]/\Γ=[]/\i<=code.length/\0<=h/\h<=4398046511104) 0 ?_ ?_
 ·exact ⟨_,_,Wk.aX aw,_,rfl,rfl,aY _,by omega,by omega⟩
 ·rintro i _ _ ⟨h,rfl,rfl,hi,h0,D⟩
  rcases Nat.lt_or_ge i code.length with ar | hO
  ·have hd:decide ((i:Int) < ((bI code).length:Int))=true:=by rw [gD];simpa using ar
   by_cases h4:i < 4000
   ·have YY:decide ((i:Int) < (4000:Int))=true:=by simpa using by omega
    have hr:=Hp (ec ar);generalize code[i]=b at *;have YW:b.toNat < 256:=b.toNat_lt;refine ab ?_;refine GL.q (YG.I6 rfl rfl) ?_;refine om ?_;refine ab ?_
    have Wo:=fun a=>zu a 1073741823 ⟨by omega,by omega⟩
    exact ⟨i+1,⟨_,_,Wk.aX aw,_,rfl,rfl,ar,(Wo _).1,by have:=(Wo (h * 163+((b.toNat:Nat):Int)+7)).2;omega⟩,by omega⟩
   ·have YY:decide ((i:Int) < (4000:Int))=false:=by simpa using by omega
    exact zcH
  ·have hd:decide ((i:Int) < ((bI code).length:Int))=false:=by rw [gD];simpa using hO
   exact zcH
def qU (code:ae) (c:dj):Int × dj :=
 let k:=aW code 11 c
 if k.1 < 4 then ((aW code 24 k.2).1 - 4,(aW code 24 k.2).2)
 else if k.1=4 then (2147483646+(aW code 3 k.2).1,(aW code 3 k.2).2)
 else if k.1=5 then (-2147483649+(aW code 3 k.2).1,(aW code 3 k.2).2)
 else if k.1=6 then (9223372036854775807 - (aW code 2 k.2).1,(aW code 2 k.2).2)
 else if k.1=7 then (-9223372036854775807 - (aW code 2 k.2).1,(aW code 2 k.2).2)
 else if k.1=8 then (qo (1 * 2 ^ (aW code 40 k.2).1.toNat),(aW code 40 k.2).2)
 else if k.1=9 then
  let a:=aW code 1000000 k.2
  let b:=aW code 1000000 a.2
  (a.1 * b.1,b.2)
 else aW code 2000000 k.2
theorem Ba {code:ae} {c:dj} (h:c.i<=code.length):(qU code c).2.i<=code.length:=by
 unfold qU
 have D:=fun n=>cP (code:=code) (c:=(aW code 11 c).2) n (cP 11 h)
 simp only
 repeat (split;exact D _)
 split
 ·exact cP _ (D _)
 ·exact D _
theorem tC (code:ae) (c:dj) : -9223372036854775808<=(qU code c).1/\(qU code c).1<=9223372036854775807:=by
 unfold qU
 have D:=fun n (h:(0:Int) < n)=>cQ code (aW code 11 c).2 h
 simp only;split
 ·have:=D 24 X;exact zdy
 split
 ·have:=D 3 X;exact zdy
 split
 ·have:=D 3 X;exact zdy
 split
 ·have:=D 2 X;exact zdy
 split
 ·have:=D 2 X;exact zdy
 split
 ·exact RV _
 split
 ·have I:=D 1000000 X;have h3:=cQ code (aW code 1000000 (aW code 11 c).2).2 (n:=1000000) X;have h4:=Int.mul_nonneg I.1 h3.1;have h5:=Int.mul_le_mul (Int.le_of_lt I.2) (Int.le_of_lt h3.2) h3.1 X;exact zdy
 ·have:=D 2000000 X;omega
section
variable {P:Program} {fr:List GV} {Γ:List Ob} {x y:Operand} {t t':TypeId} {a:Int}
theorem YG.X2 {kk:IntKind} {n:Nat} (hx:bg fr x=.v (ii a)) (hy:bg fr y=.v (.int kk (n:Int))) (hn:n<=63):YG P (.binOp .shl t x y t') fr Γ (.v (ii (qo (a * 2 ^ n)))) :=
 YG.v2 hx hy fun l w h k d ty pos af=>by
  have D:¬ ((n:Int) < 0):=by omega
  have I:min n 64=n:=by omega
  have h3:n < 64:=by omega
  simp [execOp,eqGuard,h,k,binOp,Op.shift,D,I,h3,IntKind.bits,qo]
end
theorem Fc (code:ae) (c:dj) (hl:code.length<=1099511627776) (hc:c.i<=code.length) :
  GF prog 78 [.loc 0 0] [.box 103 (uw code c)] (.v (ii (qU code c).1)) [.box 103 (uw code (qU code c).2)]:=by
 unfold qU;have D:=dB code 11 c hl hc;have r1:=cQ code c (n:=11) X;have i1:=cP (code:=code) 11 hc;generalize aW code 11 c=a at *;obtain ⟨k,c1⟩:=a;simp only at D r1 i1 |-
 have I:=fun n=>dB code n c1 hl i1
 have r2:=fun n (h:(0:Int) < n)=>cQ code c1 h
 have i2:=fun n=>cP (code:=code) n i1
 by_cases hk:k < 4
 ·have hd:decide (k < (4:Int))=true:=by simpa using hk
  rw [ah hk];have h3:=I 24;have r3:=r2 24 X;exact zas
 ·have hd:decide (k < (4:Int))=false:=by simpa using hk
  rw [ad hk];obtain ⟨m,rfl⟩:∃ m:Nat,k=(m:Int):=⟨k.toNat,by omega⟩
  have hm:m=4\/m=5\/m=6\/m=7\/m=8\/m=9\/m=10:=by omega
  rcases hm with rfl | rfl | rfl | rfl | rfl | rfl | rfl
  ·have h3:=I 3;have r3:=r2 3 X;rw [ah aE];exact zas
  ·have h3:=I 3;have r3:=r2 3 X;rw [ad aE,ah aE];exact zas
  ·have h3:=I 2;have r3:=r2 2 X;rw [ad aE,ad aE,ah aE];exact zas
  ·have h3:=I 2;have r3:=r2 2 X;rw [ad aE,ad aE,ad aE,ah aE];exact zas
  ·have h3:=I 40;have r3:=r2 40 X;rw [ad aE,ad aE,ad aE,ad aE,ah aE];generalize aW code 40 c1=a at *;obtain ⟨s,c2⟩:=a;simp only at h3 r3 |-;obtain ⟨n,rfl⟩:∃ n:Nat,s=(n:Int):=⟨s.toNat,by omega⟩;rw [mI];refine aj func78 ntmps78 ?_;refine V [0] D ?_;refine V [0] h3 ?_;refine GL.q (YG.X2 rfl rfl X) ?_;refine om ?_;exact av
  ·have h3:=I 1000000;have r3:=r2 1000000 X;have i3:=i2 1000000;rw [ad aE,ad aE,ad aE,ad aE,ad aE,ah aE];generalize aW code 1000000 c1=a at *;obtain ⟨u,c2⟩:=a;simp only at h3 r3 i3 |-;have h4:=dB code 1000000 c2 hl i3;have r4:=cQ code c2 (n:=1000000) X;generalize aW code 1000000 c2=a at *;obtain ⟨v,c3⟩:=a;simp only at h4 r4 |-;have h5:=Int.mul_nonneg r3.1 r4.1;have h6:=Int.mul_le_mul (Int.le_of_lt r3.2) (Int.le_of_lt r4.2) r4.1 X;refine aj func78 ntmps78 ?_;refine V [0] D ?_;refine V [0] h3 ?_;refine V [0] h4 ?_;exact ao
  ·have h3:=I 2000000;rw [ad aE,ad aE,ad aE,ad aE,ad aE,ad aE];exact zas
end Go.Xg
namespace Go.Xg
open Go.RowKit Go.Xw
theorem C6 (a:List GV):∀ (gs b:List GV) (o:Nat),oW (a++b) (a.length+o) gs=a++oW b o gs
 | [],b,o=>rfl
 | g::gs,b,o=>by rw [oW,oW,zG,iD,C6 a gs]
theorem AA:∀ (gs a b:List GV),a.length=gs.length->oW (a++b) 0 gs=gs++b
 | [],[],b,_=>rfl
 | [],x::a,b,h=>by simp at h
 | g::gs,[],b,h=>by simp at h
 | g::gs,x::a,b,h=>by
  rw [oW,cons_append,bN];have:=C6 [g] gs (a++b) 0;simp only [length_cons,length_nil,cons_append,List.nil_append,eo,Nat.add_zero] at this |-;rw [this,AA gs a b zeO]
section
variable {P:Program} {m:Nat} {ops:Array Oper} {Q:dL} {rest:List Oper} {fr:List GV} {Γ:List Ob} {d:Option Tmp} {ty:TypeId} {pos:String} {af:Array Edge}
end
def Ob.AW:Ob->Bool
 | .vech _ _ _ _=>true
 | _=>false
def l8 (β:Bt) (aR:List Nat):Bt:=fun j=>match aR[j]? with
 | some i=>β i
 | none=>.no
section
variable {B:Bs} {K:Fz} {β:Bt} {Γ:List Ob} {w:World}
theorem bm.qz {K:Fz} {β bT:Bt} {vs:List Value} {gs:List GV} (h:bm K β vs gs) (hp:∀ g∈gs,g.pc=true):bm K bT vs gs:=⟨h.1,fun i v g D I=>(h.2 i v g D I).pc (hp g (bM I))⟩
theorem jk.flat {k:Nat} {rows:List (List GV)} (h:jk k rows):∀ g∈rows.flatten,g.pc=true:=fun g hg=>by
 obtain ⟨r,D,I⟩:=List.mem_flatten.1 hg;exact (h r D).2 g I
theorem Inv.JY {i idx o j E k T k':Nat} {rows ks:List (List GV)} {x h:Value} {r:List GV} (hI:Inv B K β Γ w) (hi:Γ[i]?=some (.vech T k rows h)) (hr:rows[idx]?=some r) (ho:r[o]?=some (.v x)) (bZ:i≠j) (hj:Γ[j]?=some (.vech E k' ks x)) :
  ∃ K',cZ K K'/\Inv B K' β (oset (oset Γ j (.vec E k' ks.length ks)) i (.vech T k (fM rows idx o (.sl k' ks)) h)) w:=by
 obtain ⟨K',hK,iL,bE⟩:=hI.Bh hj;obtain ⟨xs,D,I,h3,h4,h5⟩:=bE.ob i (.vech T k rows h) zeY;have ar:=(bh hr).1
 have xt:o < k:=by rw [<-(h4 r (bM hr)).1];exact (bh ho).1
 exact ⟨K',hK,bE.swap ⟨xs,by rw [dG];exact D,by rw [dG];exact I,by rw [ui xt h4 ar];exact bm.bN iL h3 (tD h4 hr ho),yz rfl h4,h5⟩⟩
theorem Iv {rows:List (List GV)} {i o:Nat} {g:GV} {r:List GV} (hr:rows[i]?=some r):∀ q,(fM rows i o g)[q]?=if q=i then some (bN r o g) else rows[q]?:=by
 induction rows generalizing i with
 | nil=>simp at hr
 | cons x rs ih =>
  intro q
  cases i with
  | zero =>
   cases hr
   cases q with
   | zero=>simp [fM]
   | succ q=>simp [fM]
  | succ i =>
   cases q with
   | zero=>simp [fM]
   | succ q =>
    have:=ih (by simpa using hr) q;simp only [fM,List.getElem?_cons_succ,this]
    by_cases h:q=i
    ·simp [h]
    ·simp [h]
theorem Inv.O6 {T k o E k' jf N:Nat} {h:Value} {raw fin:Nat->List GV} {ks:Nat->List (List GV)} {hd:Nat->Value} {jp:Nat->Nat} (hI:Inv B K β Γ w) {DS:List (List GV)} (Y5:Γ[jf]?=some (.vech T k DS h)) (h0:DS.length=N/\∀ i,i < N->DS[i]?=some (raw i))
  (XG:∀ i,i < N->(raw i)[o]?=some (.v (hd i))/\bN (raw i) o (.sl k' (ks i))=fin i) (gy:∀ i,i < N->Γ[jp i]?=some (.vech E k' (ks i) (hd i))) (bZ:∀ i,i < N->jp i≠jf) (EM:∀ i i',i < N->i' < N->jp i=jp i'->i=i') :
  ∃ K' aU rows,cZ K K'/\Inv B K' β aU w/\aU[jf]?=some (.vech T k rows h)/\rows.length=N/\(∀ i,i < N->rows[i]?=some (fin i))/\∀ q,q≠jf->(∀ i,i < N->q≠jp i)->aU[q]?=Γ[q]?:=by
 have key:∀ n,n<=N->∃ K' aU rows,cZ K K'/\Inv B K' β aU w/\aU[jf]?=some (.vech T k rows h)/\rows.length=N/\(∀ i,i < n->rows[i]?=some (fin i))/\(∀ i,n<=i->i < N->rows[i]?=some (raw i))/\(∀ i,n<=i->i < N->aU[jp i]?=some (.vech E k' (ks i) (hd i)))/\∀ q,q≠jf->(∀ i,i < N->q≠jp i)->aU[q]?=Γ[q]?:=by
  intro n
  induction n with
  | zero=>intro _;exact ⟨K,Γ,DS,cZ.refl K,hI,Y5,h0.1,fun i h=>by omega,fun i _ h=>h0.2 i h,fun i _ h=>gy i h,fun _ _ _=>rfl⟩
  | succ n ih =>
   intro hn;obtain ⟨K',aU,rows,a1,a2,a3,a4,a5,a6,a7,a8⟩:=ih X;have hr:=a6 n (aD _) X;obtain ⟨c1,c2⟩:=XG n X;obtain ⟨K2,b1,b2⟩:=a2.JY a3 hr c1 (fun e=>bZ n X e.symm) (a7 n (aD _) X);have ar:=(bh a3).1;refine ⟨K2,_,fM rows n o (.sl k' (ks n)),a1.trans b1,b2,?_,by rw [dG];exact a4,fun i hi=>?_,fun i hi Lt=>?_,fun i hi Lt=>?_,fun q hq Wm=>?_⟩
   ·rw [bG,bG,fq];simp [ar]
   ·rw [Iv hr,c2]
    by_cases e:i=n
    ·rw [ah e,e]
    ·rw [ad e];exact a5 i X
   ·rw [Iv hr,ad X];exact a6 i X Lt
   ·rw [bG,bG,fq,ad (fun e=>bZ i Lt e.symm),fq,ad (fun e=>by have:=EM n i X Lt e;omega)];exact a7 i X Lt
   ·rw [bG,bG,fq,ad (fun e=>hq e.symm),fq,ad (fun e=>Wm n X e.symm)];exact a8 q hq Wm
 obtain ⟨K',aU,rows,a1,a2,a3,a4,a5,_,_,a8⟩:=key N (aD _);exact ⟨K',aU,rows,a1,a2,a3,a4,a5,a8⟩
end
section
variable {P:Program} {fn:Func} {R:GV->List Ob->Prop} {fr:List GV} {Γ:List Ob} {e:Exit}
end
section
variable {P:Program} {fn:Func} {R:GV->List Ob->Prop} {fr:List GV} {Γ:List Ob} {e:Exit}
end
section
variable {P:Program} {m:Nat} {Q:dL} {fr:List GV} {Γ:List Ob} {ops:Array Oper} {rest:List Oper} {d:Option Tmp} {op:Op} {ty:TypeId} {pos:String} {af:Array Edge}
theorem GL.W2 {t:TypeId} {x:Operand} {cs:List GV} (hx:lR (bg fr x)=some cs) (hp:qz cs=true) (h:GL P m ops Q rest (bK fr d (.box cs 0)) Γ):GL P m ops Q (⟨d,.box t x,ty,pos,af,none⟩::rest) fr Γ:=fun B K β w l hm hI hF=>by
 obtain ⟨vs,D,I⟩:=(hF.ev x).cells hx
 refine WL.box rfl fun b w' hn=>?_
 rw [D] at hn;obtain ⟨hle,bE⟩:=hI.tX hn I (l7 hp);exact h B _ β w' _ hm bE ((hF.mono hle (dx.refl β)).put d (Rel.box (K:=lg K b cs) (β:=β) b 0 0 cs (fun j g hg=>by rw [eo];exact uI hg)))
theorem Mx:∀ (us vs:List Value),vs.length=us.length->mc vs 0 us=us:=by
 have key:∀ (us a vs:List Value),vs.length=us.length->mc (a++vs) a.length us=a++us:=by
  intro us
  induction us with
  | nil=>intro a vs h;rw [gk h];rfl
  | cons u us ih =>
   intro a vs h
   cases vs with
   | nil=>simp at h
   | cons v vs =>
    have hu:fh (a++v::vs) a.length u=(a++[u])++vs:=by
     clear ih h
     induction a with
     | nil=>rfl
     | cons x a ih=>rw [cons_append,length_cons,fh,ih];rfl
    have:=ih (a++[u]) vs zeO;rw [aJ,List.length_singleton] at this;rw [mc,hu,this];simp
 intro us vs h;exact key us [] vs h
theorem GL.XY {t:TypeId} {z:Value} {agg:Bool} {k:Nat} [hZ:sO P t z] [hT:Ty P t agg k] {dt ts:Tmp} {cs:List GV} {MR:TypeId} {FF:String} {CY:Array Edge} {d2:Option Tmp} (TH:z.cells.size=k) (hy:lR (cB fr ts)=some cs) (bZ:Nat.beq ts dt=false) (lW:jg fr dt=true) (hk:cs.length=k) (D:mC cs=true) (hp:qz cs=true)
  (h:GL P m ops Q rest (bK (bK fr (some dt) (.box cs 0)) d2 (.v undef)) Γ):GL P m ops Q (⟨some dt,.alloc t,ty,pos,af,none⟩::⟨d2,.store t (.tmp dt) (.tmp ts),MR,FF,CY,none⟩::rest) fr Γ:=fun B K β w l hm hI hF=>by
 refine WL.alloc (z:=z) fun b w1 hn=>?_
 obtain ⟨us,mr,mQ⟩:=(hF.nth ts).cells hy
 have zJ:ts≠dt:=by intro e;subst e;simp at bZ
 have LM:ev (put l (some dt) (.pointer (some ⟨b,0,none⟩))) (.tmp ts)=nth l ts:=n9 zJ _;have HS:ev (put l (some dt) (.pointer (some ⟨b,0,none⟩))) (.tmp dt)=.pointer (some ⟨b,0,none⟩):=sC (nG hF lW) _
 have De:us.length=k:=by rw [mQ.1,hk]
 refine WL.st (t:=t) (k:=k) HS LM hn.blk (by rw [mr];simpa using De) X (by rw [mr];simpa using mQ.mA D) fun w2 hs=>?_
 have iM:uA z.cells 0 us=us.toArray:=by
  have:=xP us z.cells.toList 0;rw [Mx us _ (by rw [Array.length_toList,TH,De])] at this;exact zcb
 rw [mr,List.toList_toArray,iM] at hs;have XC:uG w w2 b (.cells us.toArray t):=⟨hn.fresh,by rw [hs.size];exact hn.size,hs.blk,hn.ext.step hs.ext fun j hj=>.inl (by subst hj;rw [hn.fresh];exact aD _)⟩;obtain ⟨hle,bE⟩:=hI.tX XC mQ (l7 hp);exact h B _ β w2 _ hm bE (((hF.mono hle (dx.refl β)).put (some dt) (Rel.box (K:=lg K b cs) (β:=β) b 0 0 cs (fun j g hg=>by rw [eo];exact uI hg))).put d2 (.v _))
end
end Go.Xg
set_option maxHeartbeats 2000000
namespace Go.Xg
open Go.RowKit Go.Xw Go.Proofs
open Go.Xp (Nd)
open Go.Sp (Src)
attribute [local irreducible] GW GL GO YG GC GA bu bs
def jM (l:List ae):List (List GV):=l.map fun s=>[GV.v (sv s)]
def lZ (l:List Int):List (List GV):=l.map fun i=>[GV.v (ii i)]
def Hd (n:Nat) (h:Value):Prop:=∃ a c,h=.slice a n c
def dn (x:Nd) (h:Value):List GV:=[.v (ii x.kind),.v (ii x.at_),.v (ii x.n),.v (sv x.s),.v h]
def iu (x:Nd) (h:Value):Ob:=.vech 3 1 (lZ x.kids) h
theorem Gm {α:Type} {f:α->Value->Ob} (hf:∀ a h,(f a h).AW=true) {l:List α} {hs:List Value}:∀ x∈List.zipWith f l hs,x.AW=true:=fun x hx=>by
 obtain ⟨i,hi⟩:=List.getElem?_of_mem hx;rw [List.getElem?_zipWith] at hi;split at hi
 ·cases hi;exact hf _ _
 ·cases hi
end Go.Xg
set_option maxHeartbeats 4000000
namespace Go.Xg
open Go.RowKit Go.Xw Go.Proofs
open Go.Xp (levels)
def yr:List ae:=[[120],[121],[103],[49],[48],[55],[103,101,116,40,41],[115,105,122,101,40,97,41]]
def mD (l:List ae) (k:Int):ae:=l.getD k.toNat []
theorem OY {l:List ae} {k:Int} (h:0<=k/\k < (l.length:Int)):(jM l)[k.toNat]?=some [.v (sv (mD l k))]:=by
 have hk:k.toNat < l.length:=by omega
 unfold mD;rw [List.getD_eq_getElem?_getD,ec hk,Option.getD_some];simp [jM,hk]
theorem mF {l:List ae} {n:Nat} (h:∀ s∈l,s.length<=n) (k:Int):(mD l k).length<=n:=by
 unfold mD;rw [List.getD_eq_getElem?_getD]
 cases hk:l[k.toNat]? with
 | none=>exact aY _
 | some s=>exact h s (bM hk)
def gn (code:ae):Nat->dj->ae × dj
 | 0,c=>(mD yr (aW code 8 (aW code 9 c).2).1,(aW code 8 (aW code 9 c).2).2)
 | d+1,c =>
  let k:=aW code 9 c
  if k.1 < 3 then (mD yr (aW code 8 k.2).1,(aW code 8 k.2).2)
  else if k.1=3 then ([97,91]++(gn code d k.2).1++[32,38,32,51,93],(gn code d k.2).2)
  else if k.1=4 then
   let j:=aW code 3 k.2
   (mD [[45],[33],[126]] j.1++[40]++(gn code d j.2).1++[41],(gn code d j.2).2)
  else if k.1=5 then ([97,91]++(gn code d k.2).1++[93],(gn code d k.2).2)
  else
   let j:=aW code 9 k.2
   let a:=gn code d j.2
   let bQ:=levels.getD j.1.toNat []
   let o:=aW code (bQ.length:Int) a.2
   let b:=gn code d o.2
   ([40]++a.1++[32]++mD bQ o.1++[32]++b.1++[41],b.2)
theorem FU (k:Int):∀ s∈levels.getD k.toNat [],s.length<=2:=fun s hs=>by
 rw [List.getD_eq_getElem?_getD] at hs
 cases hk:levels[k.toNat]? with
 | none=>rw [hk] at hs;cases hs
 | some l =>
  rw [hk] at hs
  have h:∀ l∈levels,∀ s∈l,s.length<=2:=by decide
  exact h l (bM hk) s hs
def xg:Nat->Nat
 | 0=>7
 | d+1=>2 * xg d+7
theorem UW:∀ d,7<=xg d
 | 0=>aD _
 | d+1=>by rw [xg];omega
theorem lP (code:ae):∀ (d:Nat) (c:dj),(gn code d c).1.length<=xg d
 | 0,c=>by rw [gn,xg];exact mF aE _
 | d+1,c=>by
  have ih:=lP code d;have h7:=UW d;rw [gn,xg];simp only;split
  ·have:=mF (l:=yr) (n:=7) aE (aW code 8 (aW code 9 c).2).1;show (mD yr _).length<=_;omega
  split
  ·have:=ih (aW code 9 c).2;exact zab
  split
  ·have D:=ih (aW code 3 (aW code 9 c).2).2;have I:=mF (l:=[[45],[33],[126]]) (n:=1) aE (aW code 3 (aW code 9 c).2).1;exact zab
  split
  ·have:=ih (aW code 9 c).2;exact zab
  ·generalize aW code 9 (aW code 9 c).2=j;have D:=ih j.2;generalize gn code d j.2=a at *;have I:=mF (FU j.1) (aW code ((levels.getD j.1.toNat []).length:Int) a.2).1;have h3:=ih (aW code ((levels.getD j.1.toNat []).length:Int) a.2).2;exact zab
theorem pU {code:ae}:∀ (d:Nat) {c:dj},c.i<=code.length->(gn code d c).2.i<=code.length
 | 0,c,h=>by rw [gn];exact cP _ (cP _ h)
 | d+1,c,h=>by
  have ih:=fun {c:dj}=>pU (code:=code) d (c:=c)
  have D:=cP (code:=code) 9 h;rw [gn];simp only;split
  ·exact cP _ D
  split
  ·exact ih D
  split
  ·exact ih (cP _ D)
  split
  ·exact ih D
  ·exact ih (cP _ (ih (cP _ D)))
def oc (code:ae) (d:Nat) (sub:dj->ae × dj) (out:ae) (c:dj):ae × dj :=
 let k:=aW code 8 c
 if k.1=0/\0 < d then
  let e:=gn code 1 k.2
  let a:=sub e.2
  let b:=sub a.2
  (out++[105,102,32,40]++e.1++[41,32,123,32]++a.1++[32,125,32,101,108,115,101,32,123,32]++b.1++[32,125,32],b.2)
 else if k.1=1/\0 < d then
  let a:=sub k.2
  (out++[121,32,61,32,51,59,32,119,104,105,108,101,32,40,121,32,62,32,48,41,32,123,32]++a.1++[32,121,32,61,32,121,32,45,32,49,59,32,125,32],a.2)
 else if k.1=2 then
  let e:=gn code 1 k.2
  let f:=gn code 2 e.2
  (out++[97,91]++e.1++[32,38,32,51,93,32,61,32]++f.1++[59,32],f.2)
 else if k.1=3 then
  let e:=gn code 2 k.2
  (out++[112,117,116,40]++e.1++[41,59,32],e.2)
 else if k.1=4 then
  let e:=gn code 1 k.2
  (out++[103,32,61,32,103,32,43,32]++e.1++[59,32],e.2)
 else
  let x:=aW code 2 k.2
  let e:=gn code 2 x.2
  (out++mD [[120],[121]] x.1++[32,61,32]++e.1++[59,32],e.2)
def jB (g:ae->dj->ae × dj):Nat->ae->dj->ae × dj
 | 0,out,c=>(out,c)
 | n+1,out,c=>jB g n (g out c).1 (g out c).2
def vG (code:ae):Nat->dj->ae × dj
 | 0,c=>jB (oc code 0 fun c=>([],c)) (aW code 4 c).1.toNat [] (aW code 4 c).2
 | d+1,c=>jB (oc code (d+1) (vG code d)) (aW code 4 c).1.toNat [] (aW code 4 c).2
theorem xT {code:ae} {d:Nat} {sub:dj->ae × dj} {B:Nat} (hs:∀ c,(sub c).1.length<=B) (out:ae) (c:dj):(oc code d sub out c).1.length<=out.length+2 * B+200:=by
 have D:=fun c=>lP code 1 c
 have I:=fun c=>lP code 2 c
 simp only [xg] at D I;unfold oc;simp only;generalize aW code 8 c=k;split
 ·have a1:=D k.2;have a2:=hs (gn code 1 k.2).2;have a3:=hs (sub (gn code 1 k.2).2).2;exact zab
 split
 ·have a2:=hs k.2;exact zab
 split
 ·have a1:=D k.2;have a2:=I (gn code 1 k.2).2;exact zab
 split
 ·have a1:=I k.2;exact zab
 split
 ·have a1:=D k.2;exact zab
 ·have a1:=I (aW code 2 k.2).2;have a2:=mF (l:=[[120],[121]]) (n:=1) aE (aW code 2 k.2).1;exact zab
theorem CF {code:ae} {d:Nat} {sub:dj->ae × dj} (hs:∀ c:dj,c.i<=code.length->(sub c).2.i<=code.length) {out:ae} {c:dj} (hc:c.i<=code.length):(oc code d sub out c).2.i<=code.length:=by
 have D:=cP (code:=code) 8 hc;unfold oc;simp only;generalize aW code 8 c=k at *;split
 ·exact hs _ (hs _ (pU 1 D))
 split
 ·exact hs _ D
 split
 ·exact pU 2 (pU 1 D)
 split
 ·exact pU 2 D
 split
 ·exact pU 1 D
 ·exact pU 2 (cP _ D)
theorem wK {g:ae->dj->ae × dj} {B:Nat} (hg:∀ out c,(g out c).1.length<=out.length+B):∀ (n:Nat) (out:ae) (c:dj),(jB g n out c).1.length<=out.length+n * B
 | 0,out,c=>by rw [jB];show out.length<=_;omega
 | n+1,out,c=>by
  have D:=wK hg n (g out c).1 (g out c).2;have I:=hg out c;rw [jB,Nat.succ_mul];omega
theorem z7 {code:ae} {g:ae->dj->ae × dj} (hg:∀ out c,c.i<=code.length->(g out c).2.i<=code.length):∀ (n:Nat) (out:ae) (c:dj),c.i<=code.length->(jB g n out c).2.i<=code.length
 | 0,out,c,h=>by rw [jB];exact h
 | n+1,out,c,h=>by rw [jB];exact z7 hg n _ _ (hg out c h)
def zo:Nat->Nat
 | 0=>600
 | d+1=>6 * zo d+600
theorem yB (code:ae):∀ (d:Nat) (c:dj),(vG code d c).1.length<=zo d
 | 0,c=>by
  rw [vG,zo];have h:=cQ code c (n:=4) X;have I:=wK (B:=200) (fun out c=>xT (code:=code) (d:=0) (sub:=fun c=>([],c)) (B:=0) (fun c=>aD _) out c) (aW code 4 c).1.toNat [] (aW code 4 c).2;have h3:(aW code 4 c).1.toNat * 200<=3 * 200:=la _ X;simp only [length_nil] at I;omega
 | d+1,c=>by
  rw [vG,zo];have h:=cQ code c (n:=4) X;have I:=wK (B:=2 * zo d+200) (fun out c=>by have:=xT (code:=code) (d:=d+1) (yB code d) out c;omega) (aW code 4 c).1.toNat [] (aW code 4 c).2;have h3:(aW code 4 c).1.toNat * (2 * zo d+200)<=3 * (2 * zo d+200):=la _ X;simp only [length_nil] at I;omega
theorem DT {code:ae}:∀ (d:Nat) {c:dj},c.i<=code.length->(vG code d c).2.i<=code.length
 | 0,c,h=>by rw [vG];exact z7 (fun out c hc=>CF (fun c h=>h) hc) _ _ _ (cP _ h)
 | d+1,c,h=>by rw [vG];exact z7 (fun out c hc=>CF (fun c h=>DT d h) hc) _ _ _ (cP _ h)
open Tryz
open GV (U)
abbrev jF (code:ae) (c:dj):Ob:=.box 103 (uw code c)
theorem Sl {d:Nat} (h:d<=3):xg d<=105:=by
 have:d=0\/d=1\/d=2\/d=3:=by omega
 rcases this with rfl | rfl | rfl | rfl <;> decide
theorem qR {l:List ae} {m:Nat} (h:m < l.length):(jM l)[m]?=some [.v (sv (mD l (m:Int)))]:=by
 have:=OY (l:=l) (k:=(m:Int)) ⟨by omega,by omega⟩
 rwa [mI] at this
theorem JF {m:Nat} (h:m < 9):(levels.map fun l=>[strs l])[m]?=some [strs (levels.getD m [])]:=by
 have:m < levels.length:=h;rw [bP,List.getD_eq_getElem?_getD,ec this];rfl
theorem L6:∀ m,m < 9->0 < (levels.getD m []).length:=by decide
attribute [local irreducible] GW GL GO YG GC GA bu bs pS uE qo
theorem HY (code:ae) (hl:code.length<=1099511627776):∀ (d:Nat) (c:dj),d<=3->c.i<=code.length ->
  GF prog 247 [.loc 0 0,.v (ii (d:Nat))] [jF code c] (.v (sv (gn code d c).1)) [jF code (gn code d c).2]:=by
 intro d
 induction d with
 | zero =>
  intro c hd hc;rw [gn];have D:=dB code 9 c hl hc;have i1:=cP (code:=code) 9 hc;generalize aW code 9 c=a at *;obtain ⟨k,c1⟩:=a;simp only at D i1 |-;exact zat
 | succ d ih =>
  intro c hd hc
  have fG:(((d+1:Nat):Int)==0)=false:=by simp;omega
  have hB:=Sl (d:=d) X
  have ve:∀ c:dj,c.i<=code.length->GF prog 247 [.loc 0 0,.v (ii (((d+1:Nat):Int) - 1))] [jF code c] (.v (sv (gn code d c).1)) [jF code (gn code d c).2]:=fun c hc=>by
   rw [show (((d+1:Nat):Int) - 1)=(d:Int) by omega];exact ih c X hc
  clear ih;rw [gn];have D:=dB code 9 c hl hc;have r1:=cQ code c (n:=9) X;have i1:=cP (code:=code) 9 hc;generalize aW code 9 c=a at *;obtain ⟨k,c1⟩:=a;simp only at D r1 i1 |-
  by_cases hk:k < 3
  ·have eZ:decide (k < (3:Int))=true:=by simpa using hk
   rw [ah hk];exact zat
  ·have eZ:decide (k < (3:Int))=false:=by simpa using hk
   rw [ad hk]
   by_cases PW:k=3
   ·subst PW;exact zaY
   ·have aai:(k==3)=false:=by simpa using PW
    rw [ad PW]
    by_cases hk4:k=4
    ·subst hk4;rw [ah rfl];have I:=dB code 3 c1 hl i1;have r2:=cQ code c1 (n:=3) X;have i2:=cP (code:=code) 3 i1;generalize aW code 3 c1=a at *;obtain ⟨j,c2⟩:=a;simp only at I r2 i2 |-;obtain ⟨m,rfl⟩:∃ m:Nat,j=(m:Int):=⟨j.toNat,by omega⟩;have hr:=qR (l:=[[45],[33],[126]]) (m:=m) (by show m < 3;omega);have hp:=mF (l:=[[45],[33],[126]]) (n:=1) aE (m:Int);generalize mD [[45],[33],[126]] (m:Int)=sg at *;have h3:=ve c2 i2;have b3:=lP code d c2;generalize gn code d c2=a at *;obtain ⟨s,c3⟩:=a;simp only at h3 b3 |-;refine aj func247 ntmps247 ?_;refine V [0] D ?_;refine aS (.q 1 (aC 6 3 (.f 0 (.a 2 (aC 3 3 (.a 9 (aC 10 3 .nil)))) 2 (.f 0 (aC 3 3 (.a 9 (aC 10 3 .nil))) 9 (.a 0 (aC 3 3 (aC 10 3 .nil))))))) ?_;refine aq ?_;refine GO.fork ?_ ?_
     ·refine zaN ?_;refine ax [0] I ?_;refine ax [0] h3 ?_;exact av
     ·refine ax [0] I ?_;refine GO.fork ?_ ?_
      ·refine zaN ?_;refine ax [0] h3 ?_;exact av
      ·refine ax [0] h3 ?_;refine zaN ?_;exact av
    ·have aaj:(k==4)=false:=by simpa using hk4
     rw [ad hk4]
     by_cases hk5:k=5
     ·subst hk5;exact zaY
     ·have aak:(k==5)=false:=by simpa using hk5
      rw [ad hk5];have I:=dB code 9 c1 hl i1;have r2:=cQ code c1 (n:=9) X;have i2:=cP (code:=code) 9 i1;generalize aW code 9 c1=a at *;obtain ⟨j,c2⟩:=a;simp only at I r2 i2 |-;obtain ⟨m,rfl⟩:∃ m:Nat,j=(m:Int):=⟨j.toNat,by omega⟩;rw [mI];have hr:=JF (m:=m) X;have hn:=L6 m X;have dE:=FU (m:Int);rw [mI] at dE;generalize levels.getD m []=sgs at *;have h3:=ve c2 i2;have b3:=lP code d c2;have i3:=pU (code:=code) d i2;generalize gn code d c2=a at *;obtain ⟨s,c3⟩:=a;simp only at h3 b3 i3 |-;have h4:=dB code (sgs.length:Int) c3 hl i3;have r4:=cQ code c3 (n:=(sgs.length:Int)) X;have i4:=cP (code:=code) (sgs.length:Int) i3;generalize aW code (sgs.length:Int) c3=a at *;obtain ⟨o,c4⟩:=a;simp only at h4 r4 i4 |-;obtain ⟨q,rfl⟩:∃ q:Nat,o=(q:Int):=⟨o.toNat,by omega⟩;have hr4:=qR (l:=sgs) (m:=q) X;have hp:=mF dE (q:Int);generalize mD sgs (q:Int)=sg at *;have zc:(sgs.map fun s=>[GV.v (sv s)]).length=sgs.length:=cU _;rw [<-zc] at h4;have h5:=ve c4 i4;have b5:=lP code d c4;generalize gn code d c4=a at *;obtain ⟨s2,c5⟩:=a;simp only at h5 b5 |-;refine aj func247 ntmps247 ?_;refine V [0] D ?_;refine V [] iV ?_;refine V [0] I ?_;refine aS (aC 0 3 (aC 6 4 (aC 15 3 (.a 3 (.q 4 (.q 5 (.a 10 (aC 11 4 (.a 18 (aC 19 3 .nil)))))))))) ?_;refine aq ?_;refine ax [0] h3 ?_;refine ax [0] h4 ?_;refine ax [0] h5 ?_;exact av
theorem A0 (code:ae) (hl:code.length<=1099511627776) (d:Nat) (hd:d<=3) (sub:dj->ae × dj)
  (hs:0 < d->∀ c:dj,c.i<=code.length->GF prog 246 [.loc 0 0,.v (ii ((d:Int) - 1))] [jF code c] (.v (sv (sub c).1)) [jF code (sub c).2])
  (hb:∀ c,(sub c).1.length<=1000000) (hi:∀ c:dj,c.i<=code.length->(sub c).2.i<=code.length) (c:dj) (hc:c.i<=code.length) :
  GF prog 246 [.loc 0 0,.v (ii (d:Nat))] [jF code c] (.v (sv (jB (oc code d sub) (aW code 4 c).1.toNat [] (aW code 4 c).2).1)) [jF code (jB (oc code d sub) (aW code 4 c).1.toNat [] (aW code 4 c).2).2]:=by
 have D:=dB code 4 c hl hc;have r1:=cQ code c (n:=4) X;have i1:=cP (code:=code) 4 hc;generalize aW code 4 c=a at *;obtain ⟨n0,c1⟩:=a;simp only at D r1 i1 |-;obtain ⟨n,rfl⟩:∃ n:Nat,n0=(n:Int):=⟨n0.toNat,by omega⟩;rw [mI];have hE:=HY code hl
 have Jj:=fun c=>lP code 1 c
 have B0:=fun c=>lP code 2 c
 have pD:xg 1=21:=rfl;have kO:xg 2=49:=rfl;rw [pD] at Jj;rw [kO] at B0
 have xt:=fun out c=>xT (code:=code) (d:=d) hb out c
 have Wj:=fun (out:ae) (c:dj) (h:c.i<=code.length)=>CF (code:=code) (d:=d) hi (out:=out) h
 generalize hr:jB (oc code d sub) n [] c1=r;refine aj func246 ntmps246 ?_;refine V [0] D ?_;refine GW.loop (fun x:Nat=>x) (fun x fr Γ=>∃ out c,fr=[.loc 0 0,.v (ii (d:Nat)),U,U,U,.v (sv out),.v (ii (x:Nat)),U,U,U,U,U,U,U,U,U,U,U,U,U,U,U,U,U,U,U,U,U,U,U,U,U,U,U,U,U,U,U,U,U,U,U,U,U,U,U,U,U,U,U,U,U,U,U,U,U,U,U,U,U,U,U,U,U,U,U,U,U,U,U,U,U,U,U,U,U,U,U,U,U,U,U,U,U,U,U,U,U,U,U,U,U,U,U,U]/\Γ=[jF code c]/\x<=3/\c.i<=code.length/\out.length+x * 2000200<=8000000/\jB (oc code d sub) x out c=r) n ?_ ?_
 ·exact ⟨_,_,Wk.aX aw,_,_,rfl,rfl,by omega,i1,by simp only [length_nil];omega,hr⟩
 ·rintro x _ _ ⟨out,c,rfl,rfl,hx,hc,Tq,h⟩
  cases x with
  | zero =>
   rw [jB] at h;subst h;exact zcv
  | succ x =>
   rw [jB] at h;have kc:decide ((0:Int) < ((x+1:Nat):Int))=true:=decide_eq_true X
   have ke:(((x+1:Nat):Int) - 1)=(x:Int):=by omega
   have kP:=xt out c;have nF:=Wj out c hc
   have key:∀ y,oc code d sub out c=y->jB (oc code d sub) x y.1 y.2=r/\y.2.i<=code.length/\y.1.length+x * 2000200<=8000000:=by
    rintro _ rfl;exact ⟨h,nF,by omega⟩
   clear h kP nF xt Wj;unfold oc at key;have h3:=dB code 8 c hl hc;have r3:=cQ code c (n:=8) X;have i3:=cP (code:=code) 8 hc;generalize aW code 8 c=a at *;obtain ⟨k,c2⟩:=a;simp only at h3 r3 i3 key;obtain ⟨m,rfl⟩:∃ m:Nat,k=(m:Int):=⟨k.toNat,by omega⟩
   by_cases hA:(m:Int)=0/\0 < d
   ·obtain ⟨e1,e2,e3⟩:=key _ (ah hA);obtain ⟨hm,HF⟩:=hA
    obtain rfl:m=0:=by omega
    have AG:decide ((0:Int) < (d:Int))=true:=by simpa using HF
    have g1:=hE 1 c2 X i3;have b1:=Jj c2;have j1:=pU (code:=code) 1 i3;generalize gn code 1 c2=a at *;obtain ⟨s1,c3⟩:=a;simp only at e1 e2 e3 g1 b1 j1;have g2:=hs HF c3 j1;have b2:=hb c3;have j2:=hi c3 j1;generalize sub c3=a at *;obtain ⟨s2,c4⟩:=a;simp only at e1 e2 e3 g2 b2 j2;have g3:=hs HF c4 j2;have b3:=hb c4;generalize sub c4=a at *;obtain ⟨s3,c5⟩:=a;simp only at e1 e2 e3 g3 b3;refine ab ?_;refine V [0] h3 ?_;refine V [0] g1 ?_;refine V [0] g2 ?_;refine V [0] g3 ?_;exact zah
   have key:=fun y h=>key y ((ad hA).trans h)
   by_cases hB:(m:Int)=1/\0 < d
   ·obtain ⟨e1,e2,e3⟩:=key _ (ah hB);obtain ⟨hm,HF⟩:=hB
    obtain rfl:m=1:=by omega
    have AG:decide ((0:Int) < (d:Int))=true:=by simpa using HF
    have g2:=hs HF c2 i3;have b2:=hb c2;generalize sub c2=a at *;exact zb9
   have key:=fun y h=>key y ((ad hB).trans h)
   by_cases hC:(m:Int)=2
   ·obtain ⟨e1,e2,e3⟩:=key _ (ah hC)
    obtain rfl:m=2:=by omega
    have g1:=hE 1 c2 X i3;have b1:=Jj c2;have j1:=pU (code:=code) 1 i3;generalize gn code 1 c2=a at *;obtain ⟨s1,c3⟩:=a;simp only at e1 e2 e3 g1 b1 j1;have g2:=hE 2 c3 X j1;have b2:=B0 c3;generalize gn code 2 c3=a at *;obtain ⟨s2,c4⟩:=a;simp only at e1 e2 e3 g2 b2;refine ab ?_;refine V [0] h3 ?_;refine V [0] g1 ?_;refine V [0] g2 ?_;exact zah
   have key:=fun y h=>key y ((ad hC).trans h)
   by_cases hD:(m:Int)=3
   ·obtain ⟨e1,e2,e3⟩:=key _ (ah hD)
    obtain rfl:m=3:=by omega
    have g2:=hE 2 c2 X i3;have b2:=B0 c2;generalize gn code 2 c2=a at *;exact zb9
   have key:=fun y h=>key y ((ad hD).trans h)
   by_cases hF:(m:Int)=4
   ·obtain ⟨e1,e2,e3⟩:=key _ (ah hF)
    obtain rfl:m=4:=by omega
    have g1:=hE 1 c2 X i3;have b1:=Jj c2;generalize gn code 1 c2=a at *;obtain ⟨s1,c3⟩:=a;simp only at e1 e2 e3 g1 b1;refine ab ?_;refine V [0] h3 ?_;refine V [0] g1 ?_;exact zah
   obtain ⟨e1,e2,e3⟩:=key _ (ad hF);have h4:=dB code 2 c2 hl i3;have r4:=cQ code c2 (n:=2) X;have i4:=cP (code:=code) 2 i3;generalize aW code 2 c2=a at *;obtain ⟨q,c3⟩:=a;simp only at e1 e2 e3 h4 r4 i4;obtain ⟨q,rfl⟩:∃ q':Nat,q=(q':Int):=⟨q.toNat,by omega⟩;have bn:=qR (l:=[[120],[121]]) (m:=q) (by show q < 2;omega);have hp:=mF (l:=[[120],[121]]) (n:=1) aE (q:Int);generalize mD [[120],[121]] (q:Int)=sg at *;have g2:=hE 2 c3 X i4;have b2:=B0 c3;generalize gn code 2 c3=a at *;obtain ⟨s2,c4⟩:=a;simp only at e1 e2 e3 g2 b2
   have hm:(m=0/\d=0)\/(m=1/\d=0)\/m=5\/m=6\/m=7:=by omega
   rcases hm with ⟨rfl,rfl⟩ | ⟨rfl,rfl⟩ | rfl | rfl | rfl
   all_goals
    refine ab ?_;refine V [0] h3 ?_;refine aS (.q 0 (.q 2 (.q 8 (.f 1 (.a 3 (aC 4 4 (.a 9 (aC 10 3 .nil)))) 3 (.f 1 (aC 4 4 (.a 9 (aC 10 3 .nil))) 9 (.a 1 (aC 4 4 (aC 10 3 .nil)))))))) ?_;refine aq ?_;refine GO.fork ?_ ?_
    ·refine zaN ?_;refine ax [0] h4 ?_;refine ax [0] g2 ?_;refine ab ?_;exact zah
    ·refine ax [0] h4 ?_;refine GO.fork ?_ ?_
     ·refine zaN ?_;refine ax [0] g2 ?_;refine ab ?_;exact zah
     ·refine ax [0] g2 ?_;refine dA ?_;refine bF ?_;exact zah
theorem Uq {d:Nat} (h:d<=3):zo d<=1000000:=by
 have:d=0\/d=1\/d=2\/d=3:=by omega
 rcases this with rfl | rfl | rfl | rfl <;> decide
theorem wy (code:ae) (hl:code.length<=1099511627776):∀ (d:Nat) (c:dj),d<=3->c.i<=code.length ->
  GF prog 246 [.loc 0 0,.v (ii (d:Nat))] [jF code c] (.v (sv (vG code d c).1)) [jF code (vG code d c).2]
 | 0,c,hd,hc=>by
  rw [vG];exact A0 code hl 0 hd _ (fun h=>absurd h (Nat.lt_irrefl 0)) (fun c=>aY _) (fun c h=>h) c hc
 | d+1,c,hd,hc=>by
  rw [vG];refine A0 code hl (d+1) hd _ (fun h c hc=>?_) (fun c=>gm (yB code d c) (Uq X)) (fun c h=>DT d h) c hc;rw [show (((d+1:Nat):Int) - 1)=(d:Int) by omega];exact wy code hl d c X hc
end Go.Xg
namespace Go.Xg
open Go.RowKit Go.Xw Go.Proofs Tryz Go.Sp
open GV (U)
open Go.Xp (Tok)
attribute [local irreducible] GW GL GO YG GC GA bu bs
theorem UI (s:ae) (hs:s.length<=1000000000000) :
  GC prog 158 [.v (sv s)] [] fun g Δ=>Δ=[]/\∃ l c z,g=.tup [Go.Xg.eI l,.v (ii c),.v (ii z)]/\(c=0->s.length<=6000/\l.length<=6000/\∀ t∈l,BH t):=by
 rcases Nat.lt_or_ge 6000 s.length with Lx | Lx
 ·have S7:decide ((6000:Int) < (s.length:Int))=true:=by simpa using by omega
  refine aj func158 ntmps158 ?_;refine kq ?_;exact ⟨.tup [Go.Xg.eI [],.v (ii 1),.v (ii 0)],fT,rfl,[],1,0,rfl,fun h=>by omega⟩
 ·have S7:decide ((6000:Int) < (s.length:Int))=false:=by simpa using by omega
  have P9:=Bi s 0 X (aY _);have zc:=sH s (s.length+1) 0 (aY _);generalize hS:skip s (s.length+1) 0=R at *;obtain ⟨a0,z0⟩:=R;simp only at P9 zc;refine aj func158 ntmps158 ?_;refine rM ?_;refine ab ?_;refine V [] P9 ?_;refine GW.DR (fun fr Γ=>∃ (a:Nat) (z:Int) (n:Nat) (rows:List (List GV)) (acc:List Tok),fr=[.v (sv s),U,U,U,U,.vec 0 n,.v (ii (a:Nat)),.v (ii z),U,U,U,U,U,U,U,U,U,U,U,U,U,U,U,U,U,U,U,U,U,U,U,U,U,U,U,U,U,U,U,U,U,U,U,U,U,U,U,U,U,U,U,U,U,U,U]/\Γ=[.vec 168 4 0 rows]/\rows.length=n/\rows=acc.map cH/\acc.length<=6000/\∀ t∈acc,BH t) ?_ ?_
  ·refine GW.loop (fun x:Nat=>s.length - x) (fun a fr Γ=>∃ (z:Int) (n:Nat) (rows:List (List GV)) (acc:List Tok),fr=[.v (sv s),U,U,U,U,.vec 0 n,.v (ii (a:Nat)),.v (ii z),U,U,U,U,U,U,U,U,U,U,U,U,U,U,U,U,U,U,U,U,U,U,U,U,U,U,U,U,U,U,U,U,U,U,U,U,U,U,U,U,U,U,U,U,U,U,U]/\Γ=[.vec 168 4 0 rows]/\rows.length=n/\rows=acc.map cH/\acc.length<=a/\a<=s.length/\∀ t∈acc,BH t) a0 ?_ ?_
   ·exact ⟨_,_,Wk.aX aw,z0,0,[],[],rfl,rfl,rfl,rfl,aY _,zc.2,fun t h=>by cases h⟩
   ·rintro a _ _ ⟨z,n,rows,acc,rfl,rfl,hn,bn,xq,ha,hB⟩
    cases hc:s[a]? with
    | none =>
     have hO:s.length<=a:=nZ hc
     have hd:decide ((a:Int) < (s.length:Int))=false:=by simpa using hO
     exact zda
    | some c =>
     have ar:a < s.length:=(bh hc).1
     have hd:decide ((a:Int) < (s.length:Int))=true:=by simpa using ar
     by_cases hz:z < 0
     ·have LN:decide (z < (0:Int))=true:=by simpa using hz
      have kC:=F7 hc;have tY:=Pn hc;have HD:=RP hc Lx;have lp:=Fe s a c X hc;generalize eR s a c=tk at *;obtain ⟨t,nx⟩:=tk;simp only at kC tY HD lp
      by_cases hk:t.kind=0
      ·have eZ:(t.kind==0)=true:=by simpa using hk
       refine ab ?_;refine V [] lp ?_;refine kq ?_;exact ⟨.tup [Go.Xg.eI [],.v (ii 2),.v (ii (a:Nat))],fT,rfl,[],2,_,rfl,fun h=>by omega⟩
      ·have eZ:(t.kind==0)=false:=by simpa using hk
       have tY:=tY hk
       by_cases hbig:t.n<=2147483647
       ·have bA:decide ((2147483647:Int) < t.n)=false:=by simpa using hbig
        have HD:=HD hbig;have Jn:=Bi s nx X kC.2;have Oo:=sH s (s.length+1) nx kC.2
        have bL:n<=6000:=by rw [<-hn,bn,cU];omega
        generalize skip s (s.length+1) nx=R2 at *;obtain ⟨a2,z2⟩:=R2;simp only at Jn Oo;refine ab ?_;refine V [] lp ?_;refine zdI ?_;refine V [] Jn ?_
        exact ⟨a2,⟨_,_,(Wk.cut (n:=1) (fU rfl) rfl).trans (Wk.aX aw),z2,n+1,rows++[cH t],acc++[t],rfl,rfl,by simp [hn],by rw [lI,bn];rfl,by rw [aJ,List.length_singleton];omega,Oo.2,fun u hu=>by
         rcases nY hu with hu | hu
         ·exact hB u hu
         ·rw [List.mem_singleton] at hu;subst hu;exact HD⟩,by omega⟩
       ·have bA:decide ((2147483647:Int) < t.n)=true:=by simpa using by omega
        refine ab ?_;refine V [] lp ?_;refine kq ?_;exact ⟨.tup [Go.Xg.eI [],.v (ii 3),.v (ii (a:Nat))],fT,rfl,[],3,_,rfl,fun h=>by omega⟩
     ·have LN:decide (z < (0:Int))=false:=by simpa using hz
      exact zda
  ·rintro _ _ ⟨a,z,n,rows,acc,rfl,rfl,hn,bn,xq,hB⟩
   by_cases hz:0<=z
   ·have LN:decide ((0:Int)<=z)=true:=by simpa using hz
    refine ab ?_;refine kq ?_;exact ⟨.tup [Go.Xg.eI [],.v (ii 4),.v (ii z)],fT,rfl,[],4,_,rfl,fun h=>by omega⟩
   ·have LN:decide ((0:Int)<=z)=false:=by simpa using hz
    subst bn;refine ab ?_;refine GW.wk (Wk.kG (t:=2) rfl rfl rfl hn) ?_;refine yF ?_;exact ⟨rfl,acc,0,0,rfl,fun _=>⟨Lx,xq,hB⟩⟩
end Go.Xg
set_option maxHeartbeats 1000000
namespace Go.Xg
open Go.RowKit Go.Xw Go.Proofs Tryz Go.Sp
open GV (U)
attribute [local irreducible] GW GL GO YG GC GA bu bs
theorem sP {α:Type} {l:List α} {q:α->Bool} {k:Nat} {x:α} (hx:l[k]?=some x) (hf:(l.take k).all q=true) (hb:q x=true):(l.take (k+1)).all q=true:=by
 rw [eK,hx,List.all_append,hf];simp [hb]
def idxOf (xs:List ae) (s:ae):Int:=match xs.findIdx? (fun x=>s==x) with | some i=>(i:Int) | none => -1
theorem QK (xs:List ae) (s:ae) (hl:xs.length<=1099511627776):GF prog 103 [strs xs,.v (sv s)] [] (.v (ii (idxOf xs s))) []:=by
 refine aj func103 ntmps103 ?_;refine GW.range (xs.map fun s=>[GV.v (sv s)]).length (fun k fr Γ=>fr=[strs xs,.v (sv s),U,U,U,U,strs xs,.v (ii ((xs.map fun s=>[GV.v (sv s)]).length:Int)),.v (ii (k:Nat)),U,U,U,U,U,U,U,U,U,U]/\Γ=[]/\((xs.take k).all fun x=>!(s==x))=true) ?_ zeQ ?_ ?_ ?_
 ·exact qn
 ·exact nc
 ·rintro k _ _ ar ⟨rfl,rfl,hc⟩
  have ar:k < xs.length:=by simpa using ar
  have hx:xs[k]?=some xs[k]:=by simp [ar]
  have hr:(xs.map fun s=>[GV.v (sv s)])[k]?=some [.v (sv xs[k])]:=by simp [ar]
  cases hb:(s==xs[k]) with
  | true =>
   have hi:xs.findIdx? (fun x=>s==x)=some k:=by
    rw [List.findIdx?_eq_some_iff_getElem];refine ⟨ar,hb,fun j hj=>?_⟩;rw [fV] at hc;have:=hc xs[j] ze2;exact zcb
   unfold idxOf;rw [hi];generalize xs[k]=x at *;exact av
  | false =>
   have ra:=sP (q:=fun x=>!(s==x)) hx hc (by rw [hb];rfl);generalize xs[k]=x at *;refine ab ?_;exact ⟨rfl,rfl,_,_,Wk.aX aw,rfl,rfl,ra⟩
 ·rintro _ _ ⟨rfl,rfl,hc⟩;rw [nq zeL] at hc
  have hi:xs.findIdx? (fun x=>s==x)=none:=by
   rw [List.findIdx?_eq_none_iff];intro x hx;rw [fV] at hc;have:=hc x hx;exact zcb
  unfold idxOf;rw [hi];exact av
theorem Ow (xs:List ae) (s:ae):decide (0<=idxOf xs s)=xs.contains s:=by
 unfold idxOf
 cases h:xs.findIdx? (fun x=>s==x) with
 | some i =>
  rw [List.findIdx?_eq_some_iff_getElem] at h;obtain ⟨D,I,_⟩:=h
  have h3:s=xs[i]:=by simpa using I
  have:xs.contains s=true:=by rw [mH,h3];exact List.getElem_mem _
  rw [this];simp
 | none =>
  rw [List.findIdx?_eq_none_iff] at h
  have:xs.contains s=false:=by
   cases hc:xs.contains s with
   | false=>rfl
   | true=>have:=h s (mH.1 hc);simp at this
  rw [this];rfl
theorem vN (xs:List ae) (s:ae) (hl:xs.length<=1099511627776):GF prog 47 [strs xs,.v (sv s)] [] (.v (.bool (xs.contains s))) []:=by
 have hi:=QK xs s hl;rw [<-Ow];generalize idxOf xs s=i at *;refine aj func47 ntmps47 ?_;refine V [] hi ?_;exact ao
theorem UT (p:Src) (hp:p.nodes.length<=1000000000000) (hk:∀ n∈p.nodes,n.kids.length<=1000000000000):∀ (f a d:Nat) (e:Int),d<=801->oz p.nodes f a d=some e->GF prog 192 [.agg (aL p),.v (ii (a:Nat)),.v (ii (d:Nat))] [] (.v (ii e)) []:=by
 intro f
 induction f using Nat.strongRecOn with
 | _ f ih =>
 intro a d e hd h
 cases f with
 | zero=>simp [oz] at h
 | succ f =>
 rw [oz] at h;refine fD func192 ntmps192 ?_
 by_cases D:p.nodes.length<=a
 ·rw [ah (.inl D)] at h;cases h
  have cY:decide (((p.nodes.map aO).length:Int)<=(a:Int))=true:=by simpa using D
  exact av
 have cY:decide (((p.nodes.map aO).length:Int)<=(a:Int))=false:=by simpa using D
 by_cases I:d > 800
 ·rw [ah (.inr I)] at h;cases h
  have qt:decide ((800:Int) < (d:Int))=true:=by simpa using by omega
  exact av
 have qt:decide ((800:Int) < (d:Int))=false:=by simpa using by omega
 rw [ad X] at h
 cases hn:p.nodes[a]? with
 | none=>exact zde
 | some n =>
 rw [hn] at h;simp only at h;have hr:=FJ hn;have kA:=hk n (bM hn);refine ab ?_
 refine GW.range (n.kids.map fun i=>[GV.v (ii i)]).length (fun k fr Γ=>∃ nx g,fr=[U,.v (ii (a:Nat)),.v (ii (d:Nat)),.loc 0 0,U,U,U,.v (ii nx),U,U,U,U,U,U,U,U,U,U,U,U,U,U,U,U,U,U,ints n.kids,.v (ii ((n.kids.map fun i=>[GV.v (ii i)]).length:Int)),.v (ii (k:Nat)),U,U,U,U,U,U,U,U,U,U,U,U,U,U,U] /\
   Γ=[.box 28 (aL p)]/\0<=nx/\g<=f/\nB p.nodes g (n.kids.drop k) nx d=some e) ?_ ze6 ?_ ?_ ?_
 ·exact ⟨_,_,Wk.aX aw,_,f,rfl,rfl,by omega,aD _,h⟩
 ·rintro k _ _ ⟨_,_,rfl,rfl,_⟩;exact gU
 ·rintro k _ _ ar ⟨nx,g,rfl,rfl,HN,hg,h⟩
  have ar:k < n.kids.length:=by simpa using ar
  have hx:n.kids[k]?=some n.kids[k]:=by simp [ar]
  rw [o8 ar] at h;generalize n.kids[k]=x at *;have xz:=Iu hx
  cases g with
  | zero=>simp [nB] at h
  | succ g =>
  rw [nB] at h
  by_cases hxn:x=nx
  ·subst hxn;rw [ah rfl] at h
   have hb:(x != x)=false:=by simp
   cases dI:oz p.nodes g x.toNat (d+1) with
   | none=>rw [dI] at h;cases h
   | some y =>
   rw [dI] at h;simp only at h;have ym:=ih g X x.toNat (d+1) y X dI;rw [Int.toNat_of_nonneg HN] at ym
   by_cases hy:y < 0
   ·rw [ah hy] at h;cases h
    have LM:decide (y < (0:Int))=true:=by simpa using hy
    refine ab ?_;refine V [] ym ?_;exact ao
   ·rw [ad hy] at h
    have LM:decide (y < (0:Int))=false:=by simpa using hy
    refine ab ?_;refine V [] ym ?_;exact ⟨rfl,rfl,_,_,Wk.aX aw,_,g,rfl,rfl,by omega,by omega,h⟩
  ·rw [ad hxn] at h;cases h
   have hb:(x != nx)=true:=by simpa using hxn
   exact av
 ·rintro _ _ ⟨nx,g,rfl,rfl,HN,hg,h⟩;rw [cU,List.drop_length] at h
  have jH:nx=e:=by cases g <;> (rw [nB] at h;cases h;rfl)
  subst jH;exact av
open Go.Xp (T)
theorem Vl (a n:Int) (s:ae) (ks:List Int) (l:List T) (hs:s.length<=1099511627776) (hl:l.length<=1099511627776) (ha:decide (a < 0)=false):GF prog 251 [.agg (cT (.mk ⟨1,a,n,s,ks⟩ l))] [] (.v (.bool (cd (.mk ⟨1,a,n,s,ks⟩ l)))) []:=by
 have how:cd (.mk ⟨1,a,n,s,ks⟩ l)=(decide ((0:Int)<=n)&&(decide (n<=2147483647)&&((s==[])&&((l.length:Int)==0)))):=by unfold cd own;rw [ad zeJ];rfl
 rw [how];refine fD func251 ntmps251 ?_
 cases h0:decide ((0:Int)<=n) with
 | false =>
  exact av
 | true =>
  cases D:decide (n<=2147483647) with
  | false =>
   exact av
  | true =>
   cases I:(s==[]) with
   | false =>
    exact av
   | true =>
    refine zcr ?_;exact ⟨by first | rfl | (rw [bc];rfl),rfl⟩
theorem Vm (a:Int) (s:ae) (ks:List Int) (l:List T) (hs:s.length<=1099511627776) (hl:l.length<=1099511627776) (ha:decide (a < 0)=false):GF prog 251 [.agg (cT (.mk ⟨2,a,0,s,ks⟩ l))] [] (.v (.bool (cd (.mk ⟨2,a,0,s,ks⟩ l)))) []:=by
 have how:cd (.mk ⟨2,a,0,s,ks⟩ l)=(bC s&&((l.length:Int)==0)):=by unfold cd own;rw [ad zeJ];rfl
 rw [how];refine fD func251 ntmps251 ?_
 cases h0:bC s with
 | false =>
  exact zaf
 | true =>
  refine ab ?_;have hc:=ed s hs;rw [h0] at hc;exact zae
theorem Vn (a:Int) (s:ae) (ks:List Int) (l:List T) (hs:s.length<=1099511627776) (hl:l.length<=1099511627776) (ha:decide (a < 0)=false):GF prog 251 [.agg (cT (.mk ⟨3,a,0,s,ks⟩ l))] [] (.v (.bool (cd (.mk ⟨3,a,0,s,ks⟩ l)))) []:=by
 have how:cd (.mk ⟨3,a,0,s,ks⟩ l)=(bC s&&(((l.length:Int)==1)&&bB 1 0 l)):=by unfold cd own;rw [ad zeJ];rfl
 rw [how];refine fD func251 ntmps251 ?_
 cases h0:bC s with
 | false =>
  exact zaf
 | true =>
  cases D:((l.length:Int)==1) with
  | false =>
   have cY:((((bb l).length:Int)==1))=false:=by rw [<-bc l] at D;exact D
   exact zaf
  | true =>
   have cY:((((bb l).length:Int)==1))=true:=by rw [<-bc l] at D;exact D
   refine ab ?_;have hc:=ed s hs;rw [h0] at hc;refine V [] hc ?_;have hc:=fb (.mk ⟨3,a,0,s,ks⟩ l) 1 hl;exact zae
theorem Vo (a:Int) (s:ae) (ks:List Int) (l:List T) (hs:s.length<=1099511627776) (hl:l.length<=1099511627776) (ha:decide (a < 0)=false):GF prog 251 [.agg (cT (.mk ⟨4,a,0,s,ks⟩ l))] [] (.v (.bool (cd (.mk ⟨4,a,0,s,ks⟩ l)))) []:=by
 have how:cd (.mk ⟨4,a,0,s,ks⟩ l)=(bC s&&bB l.length 0 l):=by unfold cd own;rw [ad zeJ];rfl
 rw [how];refine fD func251 ntmps251 ?_
 cases h0:bC s with
 | false =>
  exact zaf
 | true =>
  refine ab ?_;have hc:=ed s hs;rw [h0] at hc;refine V [] hc ?_;have hc:=fb (.mk ⟨4,a,0,s,ks⟩ l) (bb l).length hl;exact zae
theorem Vq (a:Int) (s:ae) (ks:List Int) (l:List T) (hs:s.length<=1099511627776) (hl:l.length<=1099511627776) (ha:decide (a < 0)=false):GF prog 251 [.agg (cT (.mk ⟨6,a,0,s,ks⟩ l))] [] (.v (.bool (cd (.mk ⟨6,a,0,s,ks⟩ l)))) []:=by
 have how:cd (.mk ⟨6,a,0,s,ks⟩ l)=(fm s&&(((l.length:Int)==2)&&bB 2 0 l)):=by unfold cd own;rw [ad zeJ];rfl
 rw [how];refine fD func251 ntmps251 ?_
 cases h0:fm s with
 | false =>
  refine ab ?_;have hc:=tm s;rw [h0] at hc;exact zcs
 | true =>
  cases D:((l.length:Int)==2) with
  | false =>
   have cY:((((bb l).length:Int)==2))=false:=by rw [<-bc l] at D;exact D
   refine ab ?_;have hc:=tm s;rw [h0] at hc;exact zcs
  | true =>
   have cY:((((bb l).length:Int)==2))=true:=by rw [<-bc l] at D;exact D
   refine ab ?_;have hc:=tm s;rw [h0] at hc;refine V [] hc ?_;have hc:=fb (.mk ⟨6,a,0,s,ks⟩ l) 2 hl;exact zae
theorem Vr (a:Int) (s:ae) (ks:List Int) (l:List T) (hs:s.length<=1099511627776) (hl:l.length<=1099511627776) (ha:decide (a < 0)=false):GF prog 251 [.agg (cT (.mk ⟨7,a,0,s,ks⟩ l))] [] (.v (.bool (cd (.mk ⟨7,a,0,s,ks⟩ l)))) []:=by
 have how:cd (.mk ⟨7,a,0,s,ks⟩ l)=(bC s&&(((l.length:Int)==1)&&bB 1 0 l)):=by unfold cd own;rw [ad zeJ];rfl
 rw [how];refine fD func251 ntmps251 ?_
 cases h0:bC s with
 | false =>
  exact zaf
 | true =>
  cases D:((l.length:Int)==1) with
  | false =>
   have cY:((((bb l).length:Int)==1))=false:=by rw [<-bc l] at D;exact D
   exact zaf
  | true =>
   have cY:((((bb l).length:Int)==1))=true:=by rw [<-bc l] at D;exact D
   refine ab ?_;have hc:=ed s hs;rw [h0] at hc;refine V [] hc ?_;have hc:=fb (.mk ⟨7,a,0,s,ks⟩ l) 1 hl;exact zae
theorem Vs (a:Int) (s:ae) (ks:List Int) (l:List T) (hs:s.length<=1099511627776) (hl:l.length<=1099511627776) (ha:decide (a < 0)=false):GF prog 251 [.agg (cT (.mk ⟨8,a,0,s,ks⟩ l))] [] (.v (.bool (cd (.mk ⟨8,a,0,s,ks⟩ l)))) []:=by
 have how:cd (.mk ⟨8,a,0,s,ks⟩ l)=(bC s&&(((l.length:Int)==2)&&bB 2 0 l)):=by unfold cd own;rw [ad zeJ];rfl
 rw [how];refine fD func251 ntmps251 ?_
 cases h0:bC s with
 | false =>
  exact zaf
 | true =>
  cases D:((l.length:Int)==2) with
  | false =>
   have cY:((((bb l).length:Int)==2))=false:=by rw [<-bc l] at D;exact D
   exact zaf
  | true =>
   have cY:((((bb l).length:Int)==2))=true:=by rw [<-bc l] at D;exact D
   refine ab ?_;have hc:=ed s hs;rw [h0] at hc;refine V [] hc ?_;have hc:=fb (.mk ⟨8,a,0,s,ks⟩ l) 2 hl;exact zae
theorem Ua (a:Int) (s:ae) (ks:List Int) (l:List T) (hs:s.length<=1099511627776) (hl:l.length<=1099511627776) (ha:decide (a < 0)=false):GF prog 251 [.agg (cT (.mk ⟨10,a,0,s,ks⟩ l))] [] (.v (.bool (cd (.mk ⟨10,a,0,s,ks⟩ l)))) []:=by
 have how:cd (.mk ⟨10,a,0,s,ks⟩ l)=((s==[])&&(((l.length:Int)==2)&&bB 1 0 l)):=by unfold cd own;rw [ad zeJ];rfl
 rw [how];refine fD func251 ntmps251 ?_
 cases h0:(s==[]) with
 | false =>
  exact av
 | true =>
  cases D:((l.length:Int)==2) with
  | false =>
   have cY:((((bb l).length:Int)==2))=false:=by rw [<-bc l] at D;exact D
   exact av
  | true =>
   have cY:((((bb l).length:Int)==2))=true:=by rw [<-bc l] at D;exact D
   refine ab ?_;have hc:=fb (.mk ⟨10,a,0,s,ks⟩ l) 1 hl;exact zae
theorem Ub (a:Int) (s:ae) (ks:List Int) (l:List T) (hs:s.length<=1099511627776) (hl:l.length<=1099511627776) (ha:decide (a < 0)=false):GF prog 251 [.agg (cT (.mk ⟨11,a,0,s,ks⟩ l))] [] (.v (.bool (cd (.mk ⟨11,a,0,s,ks⟩ l)))) []:=by
 have how:cd (.mk ⟨11,a,0,s,ks⟩ l)=((s==[])&&(((l.length:Int)==1)&&bB 1 0 l)):=by unfold cd own;rw [ad zeJ];rfl
 rw [how];refine fD func251 ntmps251 ?_
 cases h0:(s==[]) with
 | false =>
  exact av
 | true =>
  cases D:((l.length:Int)==1) with
  | false =>
   have cY:((((bb l).length:Int)==1))=false:=by rw [<-bc l] at D;exact D
   exact av
  | true =>
   have cY:((((bb l).length:Int)==1))=true:=by rw [<-bc l] at D;exact D
   refine ab ?_;have hc:=fb (.mk ⟨11,a,0,s,ks⟩ l) 1 hl;exact zae
theorem Uc (a:Int) (s:ae) (ks:List Int) (l:List T) (hs:s.length<=1099511627776) (hl:l.length<=1099511627776) (ha:decide (a < 0)=false):GF prog 251 [.agg (cT (.mk ⟨12,a,0,s,ks⟩ l))] [] (.v (.bool (cd (.mk ⟨12,a,0,s,ks⟩ l)))) []:=by
 have how:cd (.mk ⟨12,a,0,s,ks⟩ l)=((s==[])&&(((l.length:Int)==1)&&bB 1 0 l)):=by unfold cd own;rw [ad zeJ];rfl
 rw [how];refine fD func251 ntmps251 ?_
 cases h0:(s==[]) with
 | false =>
  exact av
 | true =>
  cases D:((l.length:Int)==1) with
  | false =>
   have cY:((((bb l).length:Int)==1))=false:=by rw [<-bc l] at D;exact D
   exact av
  | true =>
   have cY:((((bb l).length:Int)==1))=true:=by rw [<-bc l] at D;exact D
   refine ab ?_;have hc:=fb (.mk ⟨12,a,0,s,ks⟩ l) 1 hl;exact zae
theorem Ud (a:Int) (s:ae) (ks:List Int) (l:List T) (hs:s.length<=1099511627776) (hl:l.length<=1099511627776) (ha:decide (a < 0)=false):GF prog 251 [.agg (cT (.mk ⟨13,a,0,s,ks⟩ l))] [] (.v (.bool (cd (.mk ⟨13,a,0,s,ks⟩ l)))) []:=by
 have how:cd (.mk ⟨13,a,0,s,ks⟩ l)=(bC s&&(((l.length:Int)==1)&&bB 1 0 l)):=by unfold cd own;rw [ad zeJ];rfl
 rw [how];refine fD func251 ntmps251 ?_
 cases h0:bC s with
 | false =>
  exact zaf
 | true =>
  cases D:((l.length:Int)==1) with
  | false =>
   have cY:((((bb l).length:Int)==1))=false:=by rw [<-bc l] at D;exact D
   exact zaf
  | true =>
   have cY:((((bb l).length:Int)==1))=true:=by rw [<-bc l] at D;exact D
   refine ab ?_;have hc:=ed s hs;rw [h0] at hc;refine V [] hc ?_;have hc:=fb (.mk ⟨13,a,0,s,ks⟩ l) 1 hl;exact zae
end Go.Xg
