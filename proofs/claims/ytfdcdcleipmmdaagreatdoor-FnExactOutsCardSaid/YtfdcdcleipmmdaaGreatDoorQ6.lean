/- Part 6 of proofs that are told in their last texts. -/
import Derived.Test.YtfdcdcleipmmdaaGreatDoorQ5
import Derived.Test.YtfdcdcleipmmdaaGreatDoorQ3
import Derived.Lib.SlicesCompact
open List (any_eq_false map_take mem_singleton nil_append)
set_option linter.unusedVariables false
set_option linter.unusedSimpArgs false
set_option maxRecDepth 100000
namespace Go.Xg
open Go.RowKit Go.Xw
def Ob.OB:Ob->Bool
 | .vech _ _ _ _=>true
 | _=>false
def uQ (β:Bt) (aR:List Nat):Bt:=fun j=>match aR[j]? with
 | some i=>β i
 | none=>.no
section
variable {B:Bs} {K:Fz} {β:Bt} {Γ:List Ob} {w:World}
theorem bg.uP {K:Fz} {β ca:Bt} {vs:List Value} {gs:List GV} (h:bg K β vs gs) (hp:∀ g∈gs,g.pc=true):bg K ca vs gs:=⟨h.1,fun i v g I F=>(h.2 i v g I F).pc (hp g (bm F))⟩
theorem gE.flat {k:Nat} {rows:List (List GV)} (h:gE k rows):∀ g∈rows.flatten,g.pc=true:=fun g hg=>by
 obtain ⟨r,I,F⟩:=List.mem_flatten.1 hg;exact (h r I).2 g F
theorem Inv.pick (h:Inv B K β Γ w) (hm:B.m=0) {aR:List Nat} {Δ:List Ob} (hl:Δ.length=aR.length) (hn:aR.Nodup)
  (hx:∀ (j:Nat) x,Δ[j]?=some x->x.OB=true/\∀ i,aR[j]?=some i->Γ[i]?=some x):Inv B K (uQ β aR) Δ w:=by
 have hb:∀ i b,(uQ β aR i).blk=some b->∃ q,aR[i]?=some q/\(β q).blk=some b:=fun i b hi=>by
  unfold uQ at hi
  cases hs:aR[i]? with
  | none=>rw [hs] at hi;cases hi
  | some q=>rw [hs] at hi;exact ⟨q,rfl,hi⟩
 refine ⟨h.ext,h.kle,fun i=>by rw [h.loc i ag];trivial,h.loc,h.fz,fun i x hi=>?_,fun i hi=>?_,fun i j b hi hj=>?_,fun i b hi=>?_,h.kn,h.tab.step (S:=jc) (Ext.refl w) (fun _ h=>h.elim) (c6.refl K) (fun i b2 F=>?_)⟩
 ·obtain ⟨I,F⟩:=hx i x hi;have ar:=(bh hi).1;have hs:aR[i]?=some (aR[i]'ag):=eF _
  cases x with
  | vech E k rows v =>
   obtain ⟨xs,e1,e2,e3,e4,e5⟩:=h.ob _ _ (F _ hs);refine ⟨xs,?_,e2,e3.uP e4.flat,e4,e5⟩;show uQ β aR i=_;unfold uQ;rw [hs];exact e1
  | _=>cases I
 ·unfold uQ;rw [List.getElem?_eq_none ag]
 ·obtain ⟨q,I,F⟩:=hb i b hi;obtain ⟨r,h3,h4⟩:=hb j b hj;have:=h.dis q r b F h4;subst this;obtain ⟨a1,a2⟩:=bh I;obtain ⟨b1,b2⟩:=bh h3;exact (List.getElem_inj hn).1 (a2.trans b2.symm)
 ·obtain ⟨q,I,F⟩:=hb i b hi;exact h.own q b F
 ·obtain ⟨q,h3,h4⟩:=hb i b2 F;exact .inl ⟨q,h4⟩
theorem Inv.view {i E k:Nat} {rows:List (List GV)} {x:Value} (h:Inv B K β Γ w) (hi:Γ[i]?=some (.vech E k rows x)):∃ K1,c6 K K1/\nL K1 w/\jl K1 (fun _=>.no) w/\Rel K1 (fun _=>.no) x (.sl k rows):=by
 obtain ⟨K',hK,hr,bA⟩:=h.Dd hi;exact ⟨K',hK,bA.fz,⟨bA.tab.le,bA.tab.pow,bA.tab.spc,fun i b h=>by cases h⟩,hr.pc rfl⟩
theorem Inv.new (h:nL K w) (ht:jl K (fun _=>.no) w):Inv ⟨w,jc,K,fun _=>.no,0⟩ K (fun _=>.no) [] w :=
 ⟨Ext.refl w,c6.refl _,dJ.refl _,fun _ _=>rfl,h,fun i x h=>by simp at h,fun _ _=>rfl,fun i j b h=>(by cases h),fun i b h=>(by cases h),fun b o g h=>.inl h,ht⟩
end
section
variable {P:Program} {fn:Func} {R:GV->List Ob->Prop} {fr:List GV} {Γ:List Ob} {e:Exit}
theorem XN {t:Tmp} {x:Value} (aR:List Nat) (Δ:List Ob) (hr:fn.results=#[.tmp t]) (he:e=.normal\/e=.ret) (hg:dj fr t=.v x) (hl:Δ.length=aR.length) (hn:aR.Nodup)
  (hx:∀ (j:Nat) x,Δ[j]?=some x->x.OB=true/\∀ i,aR[j]?=some i->Γ[i]?=some x) (h:R (.v x) Δ):xY P fn 0 R e fr Γ :=
 ⟨he,fun B K β w l hB hI hF=>⟨nth l t,K,uQ β aR,.v x,Δ,by rw [results_tmp hr,lO],hI.pick hB hl hn hx,by have:=hF.nth t;rw [hg] at this;rw [Rel.gy this];exact .v _,h⟩⟩
end
section
variable {P:Program} {fn:Func} {R:GV->List Ob->Prop} {fr:List GV} {Γ:List Ob} {e:Exit}
theorem Np {Γ:List Ob} {n:Nat} (h:∀ x∈Γ.drop n,x.OB=true):(Γ.drop n).length=((List.range (Γ.length - n)).map (·+n)).length/\((List.range (Γ.length - n)).map (·+n)).Nodup /\
  ∀ (j:Nat) x,(Γ.drop n)[j]?=some x->x.OB=true/\∀ i,((List.range (Γ.length - n)).map (·+n))[j]?=some i->Γ[i]?=some x:=by
 refine ⟨by simp,?_,fun j x hj=>⟨h x (bm hj),fun i hi=>?_⟩⟩
 ·unfold List.Nodup;rw [List.pairwise_map]
  exact List.nodup_range.imp fun cj he=>cj ag
 ·have ar:=(bh hj).1;rw [iM] at ar;rw [aV,List.getElem?_range ar] at hi;cases hi;rw [List.getElem?_drop] at hj;show Γ[j+n]?=some x;rw [Nat.add_comm];exact hj
theorem FT {t:Tmp} {x:Value} (n:Nat) (hr:fn.results=#[.tmp t]) (he:e=.normal\/e=.ret) (hg:dj fr t=.v x) (ha:∀ x∈Γ.drop n,x.OB=true) (h:R (.v x) (Γ.drop n)):xY P fn 0 R e fr Γ :=
 have hd:=Np ha
 XN _ (Γ.drop n) hr he hg hd.1 hd.2.1 hd.2.2 h
end
section
variable {P:Program} {m:Nat} {Q:eu} {fr:List GV} {Γ:List Ob} {ops:Array Oper} {rest:List Oper} {d:Option Tmp} {op:Op} {ty:TypeId} {pos:String} {af:Array Edge}
theorem GL.P8 {t:TypeId} {x:Operand} {cs:List GV} (hx:oq (a6 fr x)=some cs) (hp:uP cs=true) (h:GL P m ops Q rest (bz fr d (.box cs 0)) Γ):GL P m ops Q (⟨d,.box t x,ty,pos,af,none⟩::rest) fr Γ:=fun B K β w l hm hI hF=>by
 obtain ⟨vs,I,F⟩:=(hF.ev x).cells hx
 refine WL.box rfl fun b w' hn=>?_
 rw [I] at hn;obtain ⟨hle,bA⟩:=hI.yy hn F (nI hp);exact h B _ β w' _ hm bA ((hF.mono hle (dJ.refl β)).put d (Rel.box (K:=mn K b cs) (β:=β) b 0 0 cs (fun j g hg=>by rw [fk];exact zu hg)))
theorem GL.borrow {f:FuncId} [hf:aI P f] {args:List Operand} {qF:Array TypeId} {gs:List GV} {v:Value} (hc:GF P f gs [] (.v v) [])
  (hv:∀ B K β w l,Inv B K β Γ w->FR K β fr l->∃ K1,nL K1 w/\jl K1 (fun _=>.no) w/\bg K1 (fun _=>.no) (args.map (ev l)) gs)
  (h:GL P m ops Q rest (bz fr d (.v v)) Γ):GL P m ops Q (⟨d,.call ⟨.value (.func f),args.toArray,qF⟩,ty,pos,af,none⟩::rest) fr Γ:=fun B K β w l hm hI hF=>by
 obtain ⟨K1,I,F,h3⟩:=hv B K β w l hI hF
 have sG:(execOp (ev l) ⟨d,.call ⟨.value (.func f),args.toArray,qF⟩,ty,pos,af,none⟩).run P w=.ok (.enter f (args.map (ev l)).toArray) w:=by simp [execOp,resolve,ev,Deferred.ofValue,invoke,oE]
 refine WL.calls sG (hc _ K1 _ w _ rfl (Inv.new I F) h3) ?_;rintro x w' ⟨K',ca,g,aS,bA,gJ,rfl,rfl⟩;exact h B K β w' _ hm (hI.same bA.ext) (hF.put d (by rw [Rel.gy gJ];exact .v _))
theorem uU {P:Program} {w:World} {t e ty:TypeId} {i:TypeInfo} (hu:P.underlying t=some (.slice e)) (hi:P.info? e=some i) (a b:Option Addr) (n c d:Nat) (hc:n<=c) :
  (Builtin.append_ #[t,t] ty #[.slice a n c,.slice b 0 d]).run P w=.ok (.slice a n c) w:=by
 cases a <;> cases b <;> simp [Builtin.append_,run_underlying hu,sizeOf,typeInfo,hi,Builtin.lenOf,hc,Builtin.firstCells,loadCells,loadCellsFrom,storeCells]
theorem GL.Xz {s x:Operand} {t e k iU:Nat} [hT:pz P t e k iU] (i:Nat) {dt:Tmp} {v:Value} {rows:List (List GV)} (hx:a6 fr x=.sl k []) (hs:a6 fr s=.v v) (bJ:Γ[i]?=some (.vech e k rows v))
  (h:GL P m ops Q rest (bz fr (some dt) (.v v)) Γ):GL P m ops Q (⟨some dt,.call ⟨.builtin .append,#[s,x],#[t,t]⟩,ty,pos,af,none⟩::rest) fr Γ:=fun B K β w l hm hI hF=>by
 obtain ⟨hu,⟨j,z,hi,_⟩,_⟩:=hT.parts;obtain ⟨xs,o1,o2,_⟩:=hI.ob i _ bJ;have rF:ev l s=v:=hF.ij hs;have pL:=hF.ev x;rw [hx] at pL;generalize sH:ev l x=vx at pL
 obtain ⟨b,d',rfl⟩:∃ b d',vx=.slice b 0 d':=by
  cases pL with
  | sl0 a c k=>exact ⟨a,c,rfl⟩
  | sl b o c _ _ hr _=>exact ⟨_,_,rfl⟩
 obtain ⟨a,n,c,rfl,hc⟩:∃ a n c,v=.slice a n c/\n<=c:=by
  rcases o2.2 with ⟨e1,e2⟩ | ⟨g,cap,cur,e1,_,_,e2,_⟩
  ·exact ⟨_,_,_,e1,aH _⟩
  ·exact ⟨_,_,_,e1,e2⟩
 have nO:=uU (P:=P) (w:=w) (ty:=ty) hu hi a b n c d' hc;exact WL.val (v:=.slice a n c) (w':=w) (by simp [execOp,resolve,invoke,builtin,rF,sH,nO]) (h B K β w _ hm hI (hF.put _ (.v _)))
theorem GL.XD {s x:Operand} {t e k iU:Nat} [hT:pz P t e k iU] {i n fz:Nat} {dt:Tmp} {rows:List (List GV)} (hx:a6 fr x=.sl k []) (hs:a6 fr s=.vec i n) (bJ:Γ[i]?=some (.vec e k fz rows)) (hn:rows.length=n)
  (h:GL P m ops Q rest (bz fr (some dt) (.vec i n)) Γ):GL P m ops Q (⟨some dt,.call ⟨.builtin .append,#[s,x],#[t,t]⟩,ty,pos,af,none⟩::rest) fr Γ:=fun B K β w l hm hI hF=>by
 subst hn;obtain ⟨hu,⟨j,z,hi,_⟩,_⟩:=hT.parts;obtain ⟨h0,xs,o1,o2,_⟩:=hI.ob i _ bJ;have uE:=hF.ev s;rw [hs] at uE
 have rF:ev l s=h0:=by
  generalize hv:ev l s=v at uE
  cases uE with
  | vec _ _ a c hh =>
   obtain ⟨h',m',e1,e2,e3⟩:=hh;rw [o1] at e1;cases e1;exact e3 rfl
 have pL:=hF.ev x;rw [hx] at pL;generalize sH:ev l x=vx at pL
 obtain ⟨b,d',rfl⟩:∃ b d',vx=.slice b 0 d':=by
  cases pL with
  | sl0 a c k=>exact ⟨a,c,rfl⟩
  | sl b o c _ _ hr _=>exact ⟨_,_,rfl⟩
 obtain ⟨a,n,c,rfl,hc⟩:∃ a n c,h0=.slice a n c/\n<=c:=by
  rcases o2.2 with ⟨e1,e2⟩ | ⟨g,cap,cur,e1,_,_,e2,_⟩
  ·exact ⟨_,_,_,e1,aH _⟩
  ·exact ⟨_,_,_,e1,e2⟩
 have nO:=uU (P:=P) (w:=w) (ty:=ty) hu hi a b n c d' hc;exact WL.val (v:=.slice a n c) (w':=w) (by simp [execOp,resolve,invoke,builtin,rF,sH,nO]) (h B K β w _ hm hI (hF.put _ (by have:=hF.ev s;rw [hs,rF] at this;exact this)))
theorem Ft {Γ:List Ob} {i:Nat} {x:Ob} (h:Γ[i]?=some x):oset Γ i x=Γ:=by
 rw [bD];apply List.ext_getElem?;intro j;rw [iz]
 by_cases e:i=j
 ·subst e;have:=(bh h).1;rw [ae rfl,ae this,h]
 ·rw [ab e]
theorem GL.Cm {s x:Operand} {t e k iU:Nat} [hT:pz P t e k iU] (i:Nat) {n:Nat} {dt:Tmp} {a0:Option Addr} {c0:Nat} {rows news:List (List GV)} (hx:a6 fr x=.sl k news) (hs:a6 fr s=.v (.slice a0 n c0)) (bJ:Γ[i]?=some (.vech e k rows (.slice a0 n c0))) (hn:rows.length=n) (I:nf news=true)
  (hb:n+news.length<=9223372036854775807/\(n+news.length) * iU<=140737488355328)
  (h:∀ a c,GL P m ops Q rest (bz fr (some dt) (.v (.slice a (n+news.length) c))) (oset Γ i (.vech e k (rows++news) (.slice a (n+news.length) c)))) :
  GL P m ops Q (⟨some dt,.call ⟨.builtin .append,#[s,x],#[t,t]⟩,ty,pos,af,none⟩::rest) fr Γ:=by
 cases news with
 | nil =>
  have h0:=h a0 c0;rw [iy,show n+([]:List (List GV)).length=n from rfl,Ft bJ] at h0;exact GL.Xz i hx hs bJ h0
 | cons r rs=>exact GL.qL i hx hs bJ hn I rfl hb h
theorem GL.XC {s x:Operand} {t e k iU:Nat} [hT:pz P t e k iU] {i n fz:Nat} {dt:Tmp} {rows news:List (List GV)} (hx:a6 fr x=.sl k news) (hs:a6 fr s=.vec i n) (bJ:Γ[i]?=some (.vec e k fz rows)) (hn:rows.length=n) (I:nf news=true)
  (hb:n+news.length<=9223372036854775807/\(n+news.length) * iU<=140737488355328)
  (h:GL P m ops Q rest (bz fr (some dt) (.vec i (n+news.length))) (oset Γ i (.vec e k fz (rows++news)))) :
  GL P m ops Q (⟨some dt,.call ⟨.builtin .append,#[s,x],#[t,t]⟩,ty,pos,af,none⟩::rest) fr Γ:=by
 cases news with
 | nil =>
  rw [iy,show n+([]:List (List GV)).length=n from rfl,Ft bJ] at h;exact GL.XD hx hs bJ hn h
 | cons r rs=>exact GL.app hx hs bJ hn I rfl hb h
end
end Go.Xg
set_option maxHeartbeats 2000000
namespace Go.Xg
open Go.RowKit Go.Xw Go.Proofs
open Go.Xp (Nd Ar)
open Go.Sp (Src)
open Go.Im (qd qc qb)
attribute [local irreducible] GW GL GO YG GC GA ba bc
def cQ (l:List ah):List (List GV):=l.map fun s=>[GV.v (sv s)]
def bC (l:List Int):List (List GV):=l.map fun i=>[GV.v (ii i)]
end Go.Xg
namespace Go.Xg
open GV (U)
open Go.RowKit Go.Xw Go.Proofs Tryz
open Go.Xp (Nd T Ar aO aC)
open Go.Sp (Src)
open Go.Im
attribute [local irreducible] GW GL GO YG GC GA ba bc
section
variable {B:Bs} {K:Fz} {β:Bt} {w:World} {l:List Value} {fr:List GV} {A C:List Ob}
theorem iT {x y:Operand} {E k:Nat} {rows:List (List GV)} {h z:Value} (hI:Inv B K β (A++(.vech E k rows h::C)) w) (hF:FR K β fr l) (hx:a6 fr x=.v h) (hy:a6 fr y=.v z) :
  ∃ K1,nL K1 w/\jl K1 (fun _=>.no) w/\bg K1 (fun _=>.no) ([x,y].map (ev l)) [.sl k rows,.v z]:=by
 obtain ⟨K1,hk,I,F,h3⟩:=hI.view (i:=A.length) (E:=E) (k:=k) (rows:=rows) (x:=h) (by rw [nk (aH _),vA];rfl);refine ⟨K1,I,F,?_⟩;show bg K1 _ [ev l x,ev l y] _;rw [hF.ij hx,hF.ij hy];exact .cons h3 (.cons (.v _) .nil)
end
theorem tV (l:List ah):(cQ l).length=l.length:=by simp [cQ]
theorem P3 (xs:List Int) (s:Int) (hl:xs.length<=1099511627776):GF prog 105 [ints xs,.v (ii s)] [] (.v (ii (cr (fun x=>s==x) xs))) []:=by
 have eL:(xs.map fun i=>[GV.v (ii i)]).length=xs.length:=by simp
 refine ai func105 ntmps105 ?_;refine GW.range (xs.map fun i=>[GV.v (ii i)]).length (fun k fr Γ=>fr=[ints xs,.v (ii s),U,U,U,U,ints xs,.v (ii ((xs.map fun i=>[GV.v (ii i)]).length:Int)),.v (ii (k:Nat)),U,U,U,U,U,U,U,U,U,U]/\Γ=[]/\((xs.take k).all fun x=>!(s==x))=true) ?_ ag ?_ ?_ ?_
 ·exact jW
 ·exact ig
 ·rintro k _ _ ar ⟨rfl,rfl,aY⟩;rw [eL] at ar;obtain ⟨x,de⟩:∃ x,xs[k]?=some x:=⟨xs[k],by simp [ar]⟩;have hr:=iR de;have bB:=mU (f:=fun y:Int=>s==y) de
  have hit:=fun h0=>oR (f:=fun y:Int=>s==y) de h0 aY
  cases hb:(s==x) with
  | true =>
   rw [hit hb];exact ax
  | false =>
   refine G ?_;exact ⟨rfl,rfl,_,_,Wk.aK av,rfl,rfl,by rw [bB,aY,hb];rfl⟩
 ·rintro _ _ ⟨rfl,rfl,aY⟩;rw [eL,cy] at aY;rw [lX aY];exact ax
theorem Ai (xs:List Int) (s:Int) (hl:xs.length<=1099511627776):GF prog 82 [ints xs,.v (ii s)] [] (.v (.bool (xs.contains s))) []:=by
 have hi:=P3 xs s hl
 have he:xs.contains s=xs.any (fun x=>s==x):=by rw [List.contains_eq_any_beq]
 rw [he,<-EO];generalize cr (fun x=>s==x) xs=i at *;refine ai func82 ntmps82 ?_;refine D [] hi ?_;exact ak
end Go.Xg
set_option maxHeartbeats 4000000
namespace Go.Xg
open Go.RowKit Go.Xw Go.Proofs
open Go.Xp (Nd T Ar aO aC)
open Go.Sp (Src)
open Go.Im
attribute [local irreducible] GW GL GO YG GC GA ba bc
theorem BX (l:List ah):nf (l.map fun s=>[GV.v (sv s)])=true:=by
 induction l with
 | nil=>rfl
 | cons s l ih=>rw [List.map_cons,nf,ih];rfl
theorem GW.JJ {P:Program} {m:Nat} {c:Code} {Q:eu} {fr cl:List GV} {Γ aS:List Ob} (I:ud fr cl) (F:Γ=aS) (h:GW P m c Q cl aS):GW P m c Q fr Γ:=by
 subst F;exact GW.wk (Wk.aK I) h
end Go.Xg
namespace Go.Xg
open Go.RowKit Go.Xw Go.Proofs Tryz
open Go.Xp (Nd T Ar aO aC)
open Go.Sp (Src)
open Go.Im
attribute [local irreducible] GW GL GO YG GC GA ba bc
def tC (n:Nd):Bool:=(n.kind==4&&n.s==[115,105,122,101])&&((n.kids.length:Int)==1)
theorem xn (p:Src) (a:Nat) (n:Nd) (hn:p.nodes[a]?=some n):GF prog 85 [.agg (ao p),.v (ii (a:Nat))] [] (.v (.bool (tC n))) []:=by
 have hr:=ia hn
 have eS:(n.kids.map fun i=>[GV.v (ii i)]).length=n.kids.length:=by simp
 unfold tC;rw [<-eS];unfold aB ints at hr;generalize (n.kids.map fun i=>[GV.v (ii i)])=kk at *
 cases I:(n.kind==4)
 all_goals cases F:(n.s==[115,105,122,101])
 all_goals
  refine ai func85 ntmps85 ?_;exact ak
theorem WH (p:Src) (s:ah) (hn:p.fns.length<=1099511627776):GF prog 221 [.agg (ao p),.v (sv s)] [] (.v (ii (mi p s))) []:=by
 have hF:=yw p s hn;unfold mi pV pW cD
 cases I:(s==[103,101,116]) with
 | true =>
  rw [ae (by simpa using I)];refine ai func221 ntmps221 ?_;exact ak
 | false =>
  rw [ab (by simpa using I)]
  cases F:(s==[112,117,116]) with
  | true =>
   rw [ae (.inl (by simpa using F))];refine ai func221 ntmps221 ?_;exact ak
  | false =>
   cases h3:(s==[115,105,122,101]) with
   | true =>
    rw [ae (.inr (by simpa using h3))];refine ai func221 ntmps221 ?_;exact ak
   | false =>
    rw [ab (by simpa using And.intro (show ¬ s=[112,117,116] by simpa using F) (show ¬ s=[115,105,122,101] by simpa using h3))];unfold cr at hF
    cases hx:p.fns.findIdx? (fun f:Go.Sp.Fn=>f.name==s) with
    | none =>
     rw [hx] at hF
     have hd:decide ((0:Int) <= -1)=false:=by decide
     refine ai func221 ntmps221 ?_;refine D [] hF ?_;exact ak
    | some i =>
     rw [hx] at hF;have hi:i < p.fns.length:=(List.findIdx?_eq_some_iff_getElem.1 hx).1;obtain ⟨f,hf⟩:∃ f,p.fns[i]?=some f:=⟨p.fns[i],by simp [hi]⟩
     have hr:(p.fns.map ay)[i]?=some (ay f):=by rw [aV,hf];rfl
     have cX:(f.params.map fun s=>[GV.v (sv s)]).length=f.params.length:=by simp
     have hd:decide ((0:Int)<=((i:Nat):Int))=true:=by simp
     unfold ay at hr;simp only at hF |-;unfold mw;rw [hf];simp only;rw [<-cX];refine ai func221 ntmps221 ?_;refine D [] hF ?_;exact ak
end Go.Xg
namespace Go.Xg
open Go.RowKit Go.Xw Go.Proofs Tryz
open Go.Xp (Nd T Ar aO aC da b9)
open Go.Sp (Src)
open Go.Im
attribute [local irreducible] GW GL GO YG GC GA ba bc
theorem zP {p:Src} {a:Nat} {n:Nd} {l:List T} (bI:dV p.nodes a (.mk n l)):cS (.mk n l)=tC n:=by
 rw [dV] at bI;unfold cS tC cD
 congr 1
 rw [bI.2.1,da]
 exact Bool.eq_iff_iff.2 (by
  show ((l.length==1)=true)↔_
  simp only [beq_iff_eq];omega)
theorem IQ (p:Src) (a:Nat) (n:Nd) (l:List T) (ls:List ah) (bI:dV p.nodes a (.mk n l)) (fL:p.fns.length<=1099511627776) (jX:p.arrays.length<=1099511627776) (mu:ls.length<=1099511627776) :
  GF prog 173 [.agg (ao p),.v (ii (a:Nat)),strs ls] [] (.v (ii (dX p (.mk n l) ls))) []:=by
 have hs:=zP bI;rw [dV] at bI;obtain ⟨hn,hk,rD⟩:=bI;have hS:=xn p a n hn;have hr:=ia hn
 have eS:(n.kids.map fun i=>[GV.v (ii i)]).length=l.length:=by rw [bS,hk,da]
 unfold dX;rw [hs]
 cases hz:tC n with
 | true =>
  rw [hz] at hS;rw [ae rfl]
  have gX:l.length=1:=by
   unfold tC at hz;simp only [aE,beq_iff_eq] at hz;rw [hk,da] at hz;omega
  obtain ⟨u,rfl⟩:∃ u,l=[u]:=by
   match l,gX with
   | [u],_=>exact ⟨u,rfl⟩
  have hm:p.nodes[a+1]?=some u.n:=by
   rw [dD] at rD;have:=rD.1
   cases u;rw [dV] at this;exact this.1
  have AD:n.kids[0]?=some (((a+1:Nat)):Int):=by rw [hk];rfl
  have sG:=iR AD;have lg:=ia hm;show GF _ _ _ _ (.v (ii (if fJ p u.n ls=true then 24 else 0))) _;generalize u.n=m at *;have hA:=Ez p m.s jX;have hL:=lx ls m.s mu;have hb:fJ p m ls=((m.kind != 2 || decide (cr (fun x:Ar=>x.name==m.s) p.arrays < 0)) || ls.contains m.s):=rfl;rw [hb];generalize cr (fun x:Ar=>x.name==m.s) p.arrays=z at *;unfold aB at hr lg
  cases I:(m.kind != 2) with
  | true =>
   refine ai func173 ntmps173 ?_;refine D [] hS ?_;refine aJ (aD 0 8 (.a 8 (.a 9 .nil))) ?_;refine au ?_;exact ax
  | false =>
   cases F:decide (z < 0) with
   | true =>
    refine ai func173 ntmps173 ?_;refine D [] hS ?_;refine aJ (aD 0 8 (.a 8 (.a 9 .nil))) ?_;refine bj ?_;refine D [] hA ?_;exact ak
   | false =>
    generalize ls.contains m.s=b at *;cases b
    all_goals
     refine ai func173 ntmps173 ?_;refine D [] hS ?_;refine aJ (aD 0 8 (.a 8 (.a 9 .nil))) ?_;refine bj ?_;refine D [] hA ?_;refine D [] hL ?_;exact ak
 | false =>
  rw [hz] at hS;rw [ab aM];have hM:=WH p n.s fL;show GF _ _ _ _ (.v (ii (if mi p n.s = -1 then 22 else if mi p n.s=(l.length:Int) then 0 else 23))) _;generalize mi p n.s=z at *;rw [<-eS];unfold aB at hr;unfold ints at hr;generalize (n.kids.map fun i=>[GV.v (ii i)])=kk at *
  cases I:(z == -1) with
  | true =>
   rw [ae (by simpa using I)];refine ai func173 ntmps173 ?_;refine D [] hS ?_;refine D [] hM ?_;exact ak
  | false =>
   rw [ab (by simpa using I)]
   cases F:(z==(kk.length:Int)) with
   | true =>
    rw [ae (by simpa using F)];refine ai func173 ntmps173 ?_;refine D [] hS ?_;refine D [] hM ?_;exact ak
   | false =>
    rw [ab (by simpa using F)];refine ai func173 ntmps173 ?_;refine D [] hS ?_;refine D [] hM ?_;exact ak
theorem I8 (p:Src) (a:Nat) (n:Nd) (l:List T) (ls:List ah) (bI:dV p.nodes a (.mk n l)) (fL:p.fns.length<=1099511627776) (jX:p.arrays.length<=1099511627776) (lF:p.globals.length<=1099511627776) (mu:ls.length<=1099511627776) :
  GF prog 132 [.agg (ao p),.v (ii (a:Nat)),strs ls] [] (.v (ii (bP p (.mk n l) ls))) []:=by
 have hC:=IQ p a n l ls bI fL jX mu
 have hn:p.nodes[a]?=some n:=by rw [dV] at bI;exact bI.1
 clear bI;have hr:=ia hn;have hL:=lx ls n.s mu;have hG:=lx p.globals n.s lF;have hA:=Ez p n.s jX
 have ow:(ls.map fun s=>[GV.v (sv s)]).length=ls.length:=by simp
 have he:bP p (.mk n l) ls=(if n.kind=13 then (if ls.contains n.s=true then 21 else if ls.length>=40 then 26 else 0)
  else if n.kind=2\/n.kind=7 then (if ls.contains n.s=false/\p.globals.contains n.s=false then 22 else 0)
  else if n.kind=3\/n.kind=8 then (if ls.contains n.s=true\/cr (fun x:Ar=>x.name==n.s) p.arrays < 0 then 24 else 0)
  else if n.kind=4 then dX p (.mk n l) ls else 0):=rfl
 rw [he];generalize dX p (.mk n l) ls=cf at *;obtain ⟨kd,at_,nn,s,ks⟩:=n;simp only at *;unfold aB at hr;simp only at hr;generalize cr (fun x:Ar=>x.name==s) p.arrays=z at *;generalize ls.contains s=b at *;generalize p.globals.contains s=g at *;rw [<-ow]
 by_cases fu:kd=13
 ·subst fu
  have Ky:((13:Int)==13)=true:=by decide
  rw [ae rfl]
  cases b with
  | true =>
   refine ai func132 ntmps132 ?_;refine D [] hL ?_;exact ak
  | false =>
   cases h4:decide ((40:Int)<=(((ls.map fun s=>[GV.v (sv s)]).length:Nat):Int)) with
   | true =>
    rw [ab aM,ae (by simp at h4;omega)];refine ai func132 ntmps132 ?_;refine D [] hL ?_;exact ak
   | false =>
    rw [ab aM,ab (by simp at h4;omega)];refine ai func132 ntmps132 ?_;refine D [] hL ?_;exact ak
 rw [ab fu]
 by_cases F:kd=2
 ·subst F
  have Ky:((2:Int)==13)=false:=by decide
  have q2:((2:Int)==2)=true:=by decide
  rw [ae aM]
  cases b with
  | true =>
   refine ai func132 ntmps132 ?_;refine D [] hL ?_;exact ak
  | false =>
   cases g
   all_goals
    refine ai func132 ntmps132 ?_;refine D [] hL ?_;refine D [] hG ?_;exact ak
 by_cases h7:kd=7
 ·subst h7
  have Ky:((7:Int)==13)=false:=by decide
  have q2:((7:Int)==2)=false:=by decide
  have q7:((7:Int)==7)=true:=by decide
  rw [ae aM]
  cases b with
  | true =>
   refine ai func132 ntmps132 ?_;refine D [] hL ?_;exact ak
  | false =>
   cases g
   all_goals
    refine ai func132 ntmps132 ?_;refine D [] hL ?_;refine D [] hG ?_;exact ak
 rw [ab (by rintro (h | h);(· exact F h);exact h7 h)]
 by_cases h3:kd=3
 ·subst h3
  have Ky:((3:Int)==13)=false:=by decide
  have q2:((3:Int)==2)=false:=by decide
  have q7:((3:Int)==7)=false:=by decide
  have q3:((3:Int)==3)=true:=by decide
  rw [ae aM]
  cases b with
  | true =>
   refine ai func132 ntmps132 ?_;refine D [] hL ?_;exact ak
  | false =>
   cases hz:decide (z < 0) with
   | true =>
    rw [ae (.inr (by simpa using hz))];refine ai func132 ntmps132 ?_;refine D [] hL ?_;refine D [] hA ?_;exact ak
   | false =>
    rw [ab (by rintro (h | h);(· cases h);(· simp at hz;omega))];refine ai func132 ntmps132 ?_;refine D [] hL ?_;refine D [] hA ?_;exact ak
 by_cases h8:kd=8
 ·subst h8
  have Ky:((8:Int)==13)=false:=by decide
  have q2:((8:Int)==2)=false:=by decide
  have q7:((8:Int)==7)=false:=by decide
  have q3:((8:Int)==3)=false:=by decide
  have q8:((8:Int)==8)=true:=by decide
  rw [ae aM]
  cases b with
  | true =>
   refine ai func132 ntmps132 ?_;refine D [] hL ?_;exact ak
  | false =>
   cases hz:decide (z < 0) with
   | true =>
    rw [ae (.inr (by simpa using hz))];refine ai func132 ntmps132 ?_;refine D [] hL ?_;refine D [] hA ?_;exact ak
   | false =>
    rw [ab (by rintro (h | h);(· cases h);(· simp at hz;omega))];refine ai func132 ntmps132 ?_;refine D [] hL ?_;refine D [] hA ?_;exact ak
 rw [ab (by rintro (h | h);(· exact h3 h);exact h8 h)]
 by_cases h4:kd=4
 ·subst h4
  have Ky:((4:Int)==13)=false:=by decide
  have q2:((4:Int)==2)=false:=by decide
  have q7:((4:Int)==7)=false:=by decide
  have q3:((4:Int)==3)=false:=by decide
  have q8:((4:Int)==8)=false:=by decide
  have q4:((4:Int)==4)=true:=by decide
  rw [ae rfl];refine ai func132 ntmps132 ?_;refine D [] hL ?_;refine D [] hC ?_;exact ak
 rw [ab h4]
 have Ky:(kd==13)=false:=by simpa using fu
 have q2:(kd==2)=false:=by simpa using F
 have q7:(kd==7)=false:=by simpa using h7
 have q3:(kd==3)=false:=by simpa using h3
 have q8:(kd==8)=false:=by simpa using h8
 have q4:(kd==4)=false:=by simpa using h4
 refine ai func132 ntmps132 ?_;refine D [] hL ?_;exact ak
theorem G1 {K K1:Fz} {β:Bt} {v:Value} {gs:List GV} (hk:c6 K K1) (hp:∀ g∈gs,g.pc=true) (h:Rel K β v (.agg gs)):Rel K1 (fun _=>.no) v (.agg gs):=by
 cases h with
 | agg vs cs hl h =>
  exact .agg vs gs hl fun i v g I F=>((h i v g I F).mono hk (dJ.refl β)).pc (hp g (bm F))
theorem Lr (p:Src):∀ g∈ao p,g.pc=true:=fun g hg=>by
 simp only [ao,List.mem_cons,List.not_mem_nil,or_false] at hg
 rcases hg with rfl | rfl | rfl | rfl <;> rfl
theorem lz {B:Bs} {K:Fz} {β:Bt} {w:World} {l:List Value} {fr:List GV} {A C:List Ob} {p:Src} {x y u:Operand} {E k:Nat} {rows:List (List GV)} {h z:Value} (hI:Inv B K β (A++(.vech E k rows h::C)) w) (hF:FR K β fr l) (hx:a6 fr x=.agg (ao p)) (hy:a6 fr y=.v z) (hu:a6 fr u=.v h) :
  ∃ K1,nL K1 w/\jl K1 (fun _=>.no) w/\bg K1 (fun _=>.no) ([x,y,u].map (ev l)) [.agg (ao p),.v z,.sl k rows]:=by
 obtain ⟨K1,hk,I,F,h3⟩:=hI.view (i:=A.length) (E:=E) (k:=k) (rows:=rows) (x:=h) (by rw [nk (aH _),vA];rfl);have hr:=hF.ev x;rw [hx] at hr;refine ⟨K1,I,F,?_⟩;show bg K1 _ [ev l x,ev l y,ev l u] _;rw [hF.ij hy,hF.ij hu];exact .cons (G1 hk (Lr p) hr) (.cons (.v _) (.cons h3 .nil))
theorem UT (p:Src) (a:Nat) (n:Nd) (l:List T) (ls:List ah) (c:CS) (E1 E5 E6:TypeId) (ad:Option Addr) (cp:Nat) (bI:dV p.nodes a (.mk n l)) (fL:p.fns.length<=1099511627776) (jX:p.arrays.length<=1099511627776) (lF:p.globals.length<=1099511627776) (mu:ls.length<=1099511627776) :
  GF prog 131 [.v (ii (a:Nat)),.v (.slice ad ls.length cp),.loc 0 0,.loc 1 0,.box (ao p) 0,.loc 2 0] [.box E1 [.v (ii c.code)],.box E5 [.v (ii c.skip)],.box E6 [.v (ii c.place)],.vech 9 1 (cQ ls) (.slice ad ls.length cp)] (.tup [])
   [.box E1 [.v (ii (cE p c a (.mk n l) ls).code)],.box E5 [.v (ii (cE p c a (.mk n l) ls).skip)],.box E6 [.v (ii (cE p c a (.mk n l) ls).place)],.vech 9 1 (cQ ls) (.slice ad ls.length cp)]:=by
 have hs:=zP bI;have hN:=I8 p a n l ls bI fL jX lF mu;rw [dV] at bI;obtain ⟨hn,hk,rD⟩:=bI;have hS:=xn p a n hn;have hr:=ia hn;obtain ⟨code,place,skip⟩:=c;unfold cE;rw [hs];simp only;generalize bP p (.mk n l) ls=z at *
 cases I:(code != 0) with
 | true =>
  rw [ae (.inl (by simpa using I))];refine ai func131 ntmps131 ?_;exact gL
 | false =>
  cases F:(((a:Nat):Int)==skip) with
  | true =>
   rw [ae (.inr (by simpa using F))];refine ai func131 ntmps131 ?_;exact gL
  | false =>
   rw [ab (by rintro (h | h);(· simp at I;exact h I);(· simp at F;exact F h))];simp only
   cases hz:tC n with
   | false =>
    rw [hz] at hS;rw [ab (show ¬ (false=true) by decide)];unfold aB at hr
    cases h3:(z != 0) with
    | true =>
     rw [ae (by simpa using h3)];refine ai func131 ntmps131 ?_;refine D [] hS ?_;refine GL.borrow hN (fun B K β w l hI hF=>lz (A:=[_,_,_]) (C:=[]) hI hF rfl rfl rfl) ?_;refine eh ?_;exact l8
    | false =>
     rw [ab (by simpa using h3)];refine ai func131 ntmps131 ?_;refine D [] hS ?_;refine GL.borrow hN (fun B K β w l hI hF=>lz (A:=[_,_,_]) (C:=[]) hI hF rfl rfl rfl) ?_;refine eh ?_;exact l8
   | true =>
    rw [hz] at hS;rw [ae rfl]
    have gX:l.length=1:=by
     unfold tC at hz;simp only [aE,beq_iff_eq] at hz;rw [hk,da] at hz;omega
    obtain ⟨u,rfl⟩:∃ u,l=[u]:=by
     match l,gX with
     | [u],_=>exact ⟨u,rfl⟩
    have hm:p.nodes[a+1]?=some u.n:=by
     rw [dD] at rD;have:=rD.1
     cases u;rw [dV] at this;exact this.1
    have AD:n.kids[0]?=some (((a+1:Nat)):Int):=by rw [hk];rfl
    have sG:=iR AD;have lg:=ia hm;rw [show mZ (.mk n [u])=u.n from rfl];generalize u.n=m at *;unfold aB at hr lg
    cases h4:(m.kind != 2) with
    | true =>
     rw [ae (show m.kind≠2 by simpa using h4)]
     cases h3:(z != 0) with
     | true =>
      rw [ae (by simpa using h3)];refine ai func131 ntmps131 ?_;refine D [] hS ?_;refine GL.borrow hN (fun B K β w l hI hF=>lz (A:=[_,_,_]) (C:=[]) hI hF rfl rfl rfl) ?_;refine eh ?_;exact l8
     | false =>
      rw [ab (by simpa using h3)];refine ai func131 ntmps131 ?_;refine D [] hS ?_;refine GL.borrow hN (fun B K β w l hI hF=>lz (A:=[_,_,_]) (C:=[]) hI hF rfl rfl rfl) ?_;refine eh ?_;exact l8
    | false =>
     rw [ab (show ¬ (m.kind≠2) by simpa using h4)]
     cases h3:(z != 0) with
     | true =>
      rw [ae (by simpa using h3)];refine ai func131 ntmps131 ?_;refine D [] hS ?_;refine GL.borrow hN (fun B K β w l hI hF=>lz (A:=[_,_,_]) (C:=[]) hI hF rfl rfl rfl) ?_;refine eh ?_;exact l8
     | false =>
      rw [ab (by simpa using h3)];refine ai func131 ntmps131 ?_;refine D [] hS ?_;refine GL.borrow hN (fun B K β w l hI hF=>lz (A:=[_,_,_]) (C:=[]) hI hF rfl rfl rfl) ?_;refine eh ?_;exact l8
end Go.Xg
namespace Go.Xg
open GV (U)
open Go.RowKit Go.Xw Go.Proofs Tryz
open Go.Xp (Nd T Ar aO aC da)
open Go.Sp (Src)
open Go.Im
attribute [local irreducible] GW GL GO YG GC GA ba bc
def KR (p:Src):GV:=.fn (.func 131) [] [.loc 0 0,.loc 1 0,.box (ao p) 0,.loc 2 0]
def Ti (p:Src):GV:=.fn (.func 84) [] [.loc 3 0,.loc 4 0,.box (ao p) 0,.loc 5 0]
def Fv (p:Src) (E1 E5 E6 E2 E3 E4:TypeId) (s:CS) (ls:List ah) (ad:Option Addr) (cp:Nat):List Ob :=
 [.box E1 [.v (ii s.code)],.box E5 [.v (ii s.skip)],.box E6 [.v (ii s.place)],.box E2 [KR p],.box E3 [.v (.slice ad ls.length cp)],.box E4 [Ti p],.vech 9 1 (cQ ls) (.slice ad ls.length cp)]
theorem RR (p:Src) (E1 E5 E6 E2 E3 E4:TypeId) (hp:p.nodes.length<=1048576) (eS:∀ n∈p.nodes,n.kids.length<=1099511627776) (fL:p.fns.length<=1099511627776) (jX:p.arrays.length<=1099511627776) (lF:p.globals.length<=1099511627776):∀ (N:Nat) (t:T),aO t<=N->∀ (a:Nat) (s:CS) (ls:List ah) (ad:Option Addr) (cp:Nat),dV p.nodes a t->ls.length+aO t<=8388608 ->
  GC prog 84 [.v (ii (a:Nat)),.loc 3 0,.loc 4 0,.box (ao p) 0,.loc 5 0] (Fv p E1 E5 E6 E2 E3 E4 s ls ad cp) fun g Δ=>g=.tup []/\∃ np nq,Δ=Fv p E1 E5 E6 E2 E3 E4 (gS (cE p) t a s ls).1 (gS (cE p) t a s ls).2 np nq:=by
 intro N
 induction N with
 | zero=>intro t h;have:=jq t;omega
 | succ N ih =>
 intro t hN a s ls ad cp bI mu
 cases t with
 | mk n l =>
 rw [Go.Xp.aO] at hN mu;have DO:=bI;rw [dV] at bI;obtain ⟨hn,hk,rD⟩:=bI;rw [gS];have hr:=ia hn;have ov:=eS n (bm hn);have ht:=UT p a n l ls s E1 E5 E6 ad cp DO fL jX lF ag;generalize gk:(cE p) s a (.mk n l) ls=s1 at *
 have me:n.kids.length=l.length:=by rw [hk,da]
 unfold aB at hr;unfold Fv KR Ti;refine ai func84 ntmps84 ?_;refine GL.sf [0,1,2,6] ht rfl rfl rfl (by repeat (first | exact trivial | refine ⟨rfl,?_⟩)) ?_;rintro _ _ ⟨rfl,rfl⟩;refine dG ?_;refine G ?_;refine GW.range (n.kids.map fun i=>[GV.v (ii i)]).length (fun k fr Γ=>∃ np nq,fr=[.v (ii (a:Nat)),.loc 3 0,.loc 4 0,.box (ao p) 0,.loc 5 0,U,U,U,U,U,U,U,U,U,U,U,U,ints n.kids,.v (ii ((n.kids.map fun i=>[GV.v (ii i)]).length:Int)),.v (ii (k:Nat)),U,U,U,U,U,U,U,U,U,U,U,U,U,U,U,U,U,U,U,U,U,U,U]/\Γ=Fv p E1 E5 E6 E2 E3 E4 (dw (cE p) (l.take k) (a+1) s1 ls).1 (dw (cE p) (l.take k) (a+1) s1 ls).2 np nq) ?_ (by rw [bS];omega) ?_ ?_ ?_
 ·exact ⟨_,_,Wk.aK av,ad,cp,rfl,rfl⟩
 ·rintro k _ _ ⟨ad,cp,rfl,rfl⟩;exact dI
 ·rintro k _ _ ar ⟨ad,cp,rfl,rfl⟩;rw [bS,me] at ar;obtain ⟨u,hu⟩:∃ u,l[k]?=some u:=⟨l[k],by simp [ar]⟩;have mr:=sI (n:=a+1) hu;rw [<-hk] at mr;have uD:=iR mr;have cB:=iK hu;have Of:dV p.nodes (a+1+aC (l.take k)) u:=dD.ix l (a+1) k u rD hu
  have hlen:(dw (cE p) (l.take k) (a+1) s1 ls).2.length<=ls.length+aC (l.take k):=by
   rw [od,aZ];have:=qG (l.take k);omega
  rw [A5 _ hu];generalize (dw (cE p) (l.take k) (a+1) s1 ls).1=s2 at *;generalize (dw (cE p) (l.take k) (a+1) s1 ls).2=ls2 at *;have hv:=ih u ag (a+1+aC (l.take k)) s2 ls2 ad cp Of ag;unfold Fv KR Ti at hv |-;refine G ?_;refine GL.sf [0,1,2,3,4,5,6] hv rfl rfl rfl (by repeat (first | exact trivial | refine ⟨rfl,?_⟩)) ?_;rintro _ _ ⟨rfl,np,nq,rfl⟩;refine dG ?_;refine G ?_;exact ⟨rfl,rfl,_,_,Wk.aK av,np,nq,rfl,rfl⟩
 ·rintro _ _ ⟨ad,cp,rfl,rfl⟩;rw [bS,me,cy]
  have hlen:(dw (cE p) l (a+1) s1 ls).2.length<=ls.length+aC l:=by
   rw [od,aZ];have:=qG l;omega
  generalize (dw (cE p) l (a+1) s1 ls).1=s2 at *;generalize (dw (cE p) l (a+1) s1 ls).2=ls2 at *;have Oa:(cQ ls2).length=ls2.length:=tV ls2;unfold Fv KR Ti;refine be ?_
  cases hv:(n.kind==13) with
  | false =>
   rw [ab (by simpa using hv)];refine G ?_;refine cZ ?_;exact ⟨rfl,ad,cp,rfl⟩
  | true =>
   rw [ae (by simpa using hv)];refine G ?_;refine aJ (aD 0 7 (.a 7 (.a 8 (.a 9 .nil)))) ?_;refine au ?_;refine eZ ?_;refine au ?_;refine OA rfl rfl (GL.qL 6 (news:=[[.v (sv n.s)]]) rfl rfl rfl bf rfl rfl (by refine ⟨?_,?_⟩;(· show _+1<=_;omega);(· show (_+1) * _<=_;omega)) ?_);intro su sx;refine dE ?_;refine bj ?_;refine cZ ?_;exact ⟨rfl,su,sx,by simp [cQ]⟩
theorem TM (p:Src) (E1 E5 E6:TypeId) (i:Nat) (f:Go.Sp.Fn) (t:T) (s:CS) (hp:p.nodes.length<=1048576) (eS:∀ n∈p.nodes,n.kids.length<=1099511627776) (fL:p.fns.length<=1099511627776) (jX:p.arrays.length<=1099511627776) (lF:p.globals.length<=1099511627776)
  (hf:p.fns[i]?=some f) (xk:f.params.length<=1048576) (hb:0<=f.body) (bI:dV p.nodes f.body.toNat t) (cB:aO t<=1048576) :
  GF prog 69 [.agg (ao p),.v (ii (i:Nat)),KR p] [.box E1 [.v (ii s.code)],.box E5 [.v (ii s.skip)],.box E6 [.v (ii s.place)]] (.tup []) [.box E1 [.v (ii (gS (cE p) t f.body.toNat s f.params).1.code)],.box E5 [.v (ii (gS (cE p) t f.body.toNat s f.params).1.skip)],.box E6 [.v (ii (gS (cE p) t f.body.toNat s f.params).1.place)]]:=by
 have hr:(p.fns.map ay)[i]?=some (ay f):=by rw [aV,hf];rfl
 have cX:(f.params.map fun s=>[GV.v (sv s)]).length=f.params.length:=by simp
 have iD:=BX f.params;obtain ⟨b,qy⟩:∃ b:Nat,f.body=(b:Int):=⟨f.body.toNat,by omega⟩;rw [qy,gA] at bI |-;unfold ay at hr;rw [qy] at hr;unfold KR;refine dT func69 ntmps69 ?_;refine jv ?_;refine GL.wk (Wk.freeze (i:=3) rfl rfl rfl (aH _)) ?_;refine GN (by simp only [om,nM];rfl) ?_;refine GL.wk (Wk.aK (cl:=[U,.v (ii (i:Nat)),U,.box (ao p) 0,U,.loc 4 0,U,U,U,U,U,U,U,strs f.params,U,U,U,U,U,U,U,U,U,U]) av) ?_;refine GL.wk (Wk.q6 9 1) ?_;refine GL.Cm 5 rfl rfl rfl rfl iD (by refine ⟨?_,?_⟩;(· rw [cX];omega);(· rw [cX];omega)) ?_;intro ad cp;rw [cX];refine eh ?_;simp only [nil_append,List.length_nil,fk];refine G ?_;refine GW.JJ (cl:=[U,.v (ii (i:Nat)),U,.box (ao p) 0,U,.loc 4 0,.loc 6 0,.loc 7 0,U,U,U,U,U,U,U,U,U,U,U,U,U,U,U,U]) (aS:=[.box E1 [.v (ii s.code)],.box E5 [.v (ii s.skip)],.box E6 [.v (ii s.place)],.gone,.box _ [.fn (.func 131) [] [.loc 0 0,.loc 1 0,.box (ao p) 0,.loc 2 0]],.vech 9 1 (cQ f.params) (.slice ad f.params.length cp),.box _ [.v (.slice ad f.params.length cp)],.box _ [.fn (.func 84) [] [.loc 4 0,.loc 6 0,.box (ao p) 0,.loc 7 0]]]) av rfl ?_;refine aJ (aD 0 7 (.a 7 .nil)) ?_;refine au ?_;have hv:=RR p E1 E5 E6;refine OA rfl rfl (GL.sf [0,1,2,4,6,7,5] (hv _ _ _ hp eS fL jX lF _ t (aH _) b s f.params ad cp bI ag) rfl rfl rfl (by repeat (first | exact trivial | refine ⟨rfl,?_⟩)) ?_);rintro _ _ ⟨rfl,np,nq,rfl⟩;refine ⟨by simp [Fv],?_⟩;unfold Fv;refine dE ?_;refine au ?_;exact l8
end Go.Xg
namespace Go.Im
open Go.Xp Go.Sp
theorem JD {l:List ah}:vH l=false↔∀ k,k < l.length->oP l k=false:=by
 unfold vH;rw [any_eq_false];constructor
 ·intro h k hk;have:=h k (List.mem_range.2 hk);simpa using this
 ·intro h k hk;rw [h k (List.mem_range.1 hk)];decide
end Go.Im
namespace Go.Xg
open GV (U)
open Go.RowKit Go.Xw Go.Proofs Tryz
open Go.Xp (Nd T Ar aO aC da)
open Go.Sp (Src)
open Go.Im
theorem YG.F0 {P:Program} {fr:List GV} {Γ:List Ob} {x up:Operand} {t e:TypeId} {k:Nat} [hT:nT P t e k] {rows:List (List GV)} {kk:IntKind} {i:Nat} (hx:a6 fr x=.sl k rows) (SQ:a6 fr up=.v (.int kk i)) (hi:i < rows.length):YG P (.slice t x none (some up) none) fr Γ (.sl k (rows.take i)):=fun B K β w l hI hF=>by
 have h:=hF.ev x;rw [hx] at h;have J2:=hF.ij SQ;generalize hv:ev l x=v at h
 cases h with
 | sl0 a c=>simp at hi
 | sl b o c _ _ h hc =>
  refine ⟨.slice (some ⟨b,o,none⟩) i c,fun d ty pos af=>?_,?_⟩
  ·have o9:¬ (c=0):=by omega
   have hle:(i:Int)<=(c:Int):=by omega
   have BH:i<=c:=by omega
   simp [execOp,Instr.sliceAt,Instr.slice,Instr.sliceBounds,Instr.sliceBound,asIntOf,hv,J2,run_underlying hT.und,jB hT.siz,o9,hle,BH,qK]
  ·have:=Rel.sl (K:=K) (β:=β) b o c k (rows.take i) (fun j r hr=>?_) (by simp;omega)
   ·rw [fV,Nat.min_eq_left (Nat.le_of_lt hi)] at this;exact this
   ·have hj:j < i:=by
     rcases Nat.lt_or_ge j i with I | I
     ·exact I
     ·rw [List.getElem?_eq_none (by rw [fV];omega)] at hr;cases hr
    rw [List.getElem?_take,ae hj] at hr;exact h j r hr
attribute [local irreducible] GW GL GO YG GC GA ba bc
theorem ND (p:Src) (i:Nat) (f:Go.Sp.Fn) (t:T) (hp:p.nodes.length<=1048576) (eS:∀ n∈p.nodes,n.kids.length<=1099511627776) (fL:p.fns.length<=1099511627776) (jX:p.arrays.length<=1099511627776) (lF:p.globals.length<=1099511627776)
  (hf:p.fns[i]?=some f) (xk:f.params.length<=1048576) (hb:0<=f.body) (bI:dV p.nodes f.body.toNat t) (cB:aO t<=1048576) :
  GF prog 102 [.agg (ao p),.v (ii (i:Nat))] [] (.tup [.v (ii (fY p f t f.body.toNat).1),.v (ii (fY p f t f.body.toNat).2)]) []:=by
 have hr:(p.fns.map ay)[i]?=some (ay f):=by rw [aV,hf];rfl
 have eL:(f.params.map fun s=>[GV.v (sv s)]).length=f.params.length:=by simp
 have hE:=TM p 3 3 3 i f t ⟨0,0,-1⟩ hp eS fL jX lF hf xk hb bI cB;unfold ay at hr;unfold fY;refine ai func102 ntmps102 ?_;refine GW.range (f.params.map fun s=>[GV.v (sv s)]).length (fun k fr Γ=>fr=[U,.v (ii (i:Nat)),.loc 0 0,U,U,U,strs f.params,U,U,U,U,U,U,U,U,U,U,U,strs f.params,.v (ii ((f.params.map fun s=>[GV.v (sv s)]).length:Int)),.v (ii (k:Nat)),U,U,U,U,U,U,U,U,U,U,U,U,U,U,U,U]/\Γ=[.box 34 (ao p)]/\∀ j,j < k->oP f.params j=false) ?_ ag ?_ ?_ ?_
 ·exact ⟨_,_,Wk.aK av,rfl,rfl,fun j hj=>absurd hj (Nat.not_lt_zero _)⟩
 ·exact ig
 ·rintro k _ _ ar ⟨rfl,rfl,aY⟩;have nN:=ar;rw [eL] at ar;obtain ⟨x,hx⟩:∃ x,f.params[k]?=some x:=⟨f.params[k],by simp [ar]⟩
  have SM:(f.params.map fun s=>[GV.v (sv s)])[k]?=some [.v (sv x)]:=by rw [aV,hx];rfl
  have hC:=lx (f.params.take k) x (by rw [fV];omega)
  have hd:oP f.params k=(f.params.take k).contains x:=by unfold oP;rw [hx]
  rw [<-hd] at hC;unfold strs at hC;rw [map_take] at hC
  cases fv:oP f.params k with
  | true =>
   rw [fv] at hC
   have hdl:vH f.params=true:=by
    cases h:vH f.params with
    | true=>rfl
    | false=>rw [JD.1 h k ar] at fv;cases fv
   rw [ae hdl];refine G ?_;refine GL.q (YG.F0 rfl rfl nN) ?_;refine eh ?_;refine G ?_;refine D [] hC ?_;exact nj
  | false =>
   rw [fv] at hC;refine G ?_;refine GL.q (YG.F0 rfl rfl nN) ?_;refine eh ?_;refine G ?_;refine D [] hC ?_
   exact ⟨rfl,rfl,_,_,Wk.aK av,rfl,rfl,fun j hj=>by
    rcases Nat.lt_succ_iff_lt_or_eq.1 hj with h | rfl
    ·exact aY j h
    ·exact fv⟩
 ·rintro _ _ ⟨rfl,rfl,aY⟩;rw [eL] at aY;rw [ab (by rw [JD.2 aY];decide)];refine be ?_;refine GW.wk (Wk.freeze (i:=0) rfl rfl rfl (aX _)) ?_;refine GW.JJ (cl:=[U,.v (ii (i:Nat)),.box (ao p) 0,U,U,U,U,U,U,U,U,U,U,U,U,U,U,U,U,U,U,U,U,U,U,U,U,U,U,U,U,U,U,U,U,U,U]) (aS:=[.gone]) av rfl ?_;refine G ?_;refine D [1,3,2] hE ?_;refine aJ (aD 0 4 .nil) ?_;refine au ?_;exact r6
end Go.Xg
namespace Go.Im
open Go.Xp Go.Sp
theorem tu {l:List Ar} {k:Nat} {a:Ar} (h:l[k]?=some a):dY (l.take (k+1))=dY (l.take k)+a.size:=by
 unfold dY;rw [cq,h,List.foldl_append];rfl
theorem vF {l:List Ar} (h:∀ a∈l,0<=a.size/\a.size<=2147483648):∀ k,0<=dY (l.take k)/\dY (l.take k)<=(k:Int) * 2147483648:=by
 intro k
 induction k with
 | zero=>simp [dY]
 | succ k ih =>
  cases hx:l[k]? with
  | none =>
   have:l.take (k+1)=l.take k:=by rw [cq,hx];simp
   rw [this];omega
  | some a =>
   have:=h a (bm hx);rw [tu hx];omega
end Go.Im
namespace Go.Xg
open GV (U)
open Go.RowKit Go.Xw Go.Proofs Tryz
open Go.Xp (Nd T Ar aO aC)
open Go.Sp (Src)
open Go.Im
attribute [local irreducible] GW GL GO YG GC GA ba bc
theorem Py (p:Src) (fL:p.fns.length<=1099511627776) (jX:p.arrays.length<=1048576) (cB:∀ a∈p.arrays,0<=a.size/\a.size<=2147483648):GF prog 99 [.agg (ao p)] [] (.v (.bool (jt p))) []:=by
 have eL:(p.arrays.map aL).length=p.arrays.length:=by simp
 have lE:(p.fns.map ay).length=p.fns.length:=by simp
 have lF:(p.globals.map fun s=>[GV.v (sv s)]).length=p.globals.length:=by simp
 have hC:=va (qw:=130) (fun x=>decide (x.params.length > 40)) p.fns fL (fun x _=>Mu x);unfold jt;generalize p.fns.any (fun x=>decide (x.params.length > 40))=b4 at *;have hb:=vF cB;refine ai func99 ntmps99 ?_;refine GW.range (p.arrays.map aL).length (fun k fr Γ=>fr=[U,.loc 0 0,U,.v (ii (dY (p.arrays.take k))),U,U,U,.sl 2 (p.arrays.map aL),.v (ii ((p.arrays.map aL).length:Int)),.v (ii (k:Nat)),U,U,U,U,U,U,U,U,U,U,U,U,U,U,U,U,U,U,U,U,U,U,U,U,U,U,U,U,U,U]/\Γ=[.box 34 (ao p)]/\(p.arrays.take k).all (fun a=>!(a.size==0))=true) ?_ ag ?_ ?_ ?_
 ·exact jW
 ·exact ig
 ·rintro k _ _ ar ⟨rfl,rfl,aY⟩;rw [eL] at ar;obtain ⟨x,hx⟩:∃ x,p.arrays[k]?=some x:=⟨p.arrays[k],by simp [ar]⟩
  have hr:(p.arrays.map aL)[k]?=some (aL x):=by rw [aV,hx];rfl
  have bB:=mU (f:=fun a:Ar=>a.size==0) hx;have iX:=tu hx;have dQ:=hb k;have oz:=cB x (bm hx);unfold aL at hr
  cases I:(x.size==0) with
  | true =>
   have:p.arrays.any (fun a=>a.size==0)=true:=p7.2 ⟨x,bm hx,I⟩;rw [this];exact ax
  | false =>
   rw [iX];generalize dY (p.arrays.take k)=c at *;refine G ?_;exact ⟨rfl,rfl,_,_,(Wk.cut (n:=1) (aX _) rfl).trans (Wk.aK av),rfl,rfl,by rw [bB,aY,I];rfl⟩
 ·rintro _ _ ⟨rfl,rfl,aY⟩;rw [eL,cy] at aY |-
  have:p.arrays.any (fun a=>a.size==0)=false:=by
   rw [any_eq_false];rw [fE] at aY;intro x hx;simpa using aY x hx
  rw [this];have e1:decide (p.fns.length > 40)=decide ((40:Int) < ((p.fns.map ay).length:Int)):=decide_eq_decide.2 (by rw [lE];omega);have e2:decide (p.globals.length > 29)=decide ((29:Int) < ((p.globals.map fun s=>[GV.v (sv s)]).length:Int)):=decide_eq_decide.2 (by rw [lF];omega);have e3:decide (dY p.arrays > 8000)=decide ((8000:Int) < dY p.arrays):=rfl;rw [e1,e2,e3];generalize dY p.arrays=c at *;refine be ?_
  cases I:decide ((40:Int) < ((p.fns.map ay).length:Int))
  all_goals cases F:decide ((29:Int) < ((p.globals.map fun s=>[GV.v (sv s)]).length:Int))
  all_goals cases h3:decide ((8000:Int) < c)
  all_goals
   refine G ?_
   first
    | (refine bV ?_;exact ⟨rfl,rfl⟩)
    | (refine lu [] hC ?_;refine G ?_;refine bV ?_;exact ⟨rfl,rfl⟩)
end Go.Xg
namespace Go.Im
open Go.Xp Go.Sp
theorem Dw {l:List ah}:en l=false↔∀ k,k < l.length->kv l k=false:=by
 unfold en;rw [any_eq_false];constructor
 ·intro h k hk;have:=h k (List.mem_range.2 hk);simpa using this
 ·intro h k hk;rw [h k (List.mem_range.1 hk)];decide
theorem GQ (p:Src) (l:List T) (a:Nat):fZ p [] l a=(0,0):=by unfold fZ;rfl
end Go.Im
namespace Go.Xg
open GV (U)
open Go.RowKit Go.Xw Go.Proofs Tryz
open Go.Xp (Nd T Ar aO aC)
open Go.Sp (Src)
open Go.Im
attribute [local irreducible] GW GL GO YG GC GA ba bc
theorem MA (p:Src) (hF:GF prog 95 [.agg (ao p)] [] (.v (.bool false)) []):GF prog 80 [.agg (ao p)] [] (.tup [.v (ii 20),.v (ii 0)]) []:=by
 refine ai func80 ntmps80 ?_;refine D [] hF ?_;exact nj
theorem K4 (p:Src) (l:List T) (ns:List ah) (CI:ns.length<=8388608) (lE:p.fns.length=l.length) (fL:p.fns.length<=1048576)
  (hF:GF prog 95 [.agg (ao p)] [] (.v (.bool true)) [])
  (hA:GC prog 96 [.agg (ao p)] [] fun g Δ=>∃ a c,g=.v (.slice a ns.length c)/\Δ=[.vech 9 1 (cQ ns) (.slice a ns.length c)])
  (hT:GF prog 99 [.agg (ao p)] [] (.v (.bool (jt p))) [])
  (hq:∀ i f t,p.fns[i]?=some f->l[i]?=some t->GF prog 102 [.agg (ao p),.v (ii (i:Nat))] [] (.tup [.v (ii (fY p f t (aC (l.take i))).1),.v (ii (fY p f t (aC (l.take i))).2)]) []) :
  GF prog 80 [.agg (ao p)] []
   (.tup [.v (ii (if en ns=true then ((21,0):Int × Int) else if jt p=true then (26,0) else if p.fns.any nA=false then (25,0) else fZ p p.fns l 0).1),.v (ii (if en ns=true then ((21,0):Int × Int) else if jt p=true then (26,0) else if p.fns.any nA=false then (25,0) else fZ p p.fns l 0).2)]) []:=by
 have eL:(ns.map fun s=>[GV.v (sv s)]).length=ns.length:=by simp
 have wm:(p.fns.map ay).length=p.fns.length:=by simp
 have hM:=va (qw:=101) nA p.fns ag (fun x _=>PY x);generalize jt p=tm at *;refine ai func80 ntmps80 ?_;refine D [] hF ?_;refine dm [] hA ?_;rintro _ _ ⟨ad,cp,rfl,rfl⟩;refine dG ?_;refine GL.wk (Wk.pZ (t:=14) (i:=1) rfl rfl rfl) ?_;refine GL.wk (Wk.cut (n:=1) (aX _) rfl) ?_;refine GL.wk (Wk.aK (cl:=[U,.loc 0 0,U,U,U,U,U,U,U,U,U,U,U,U,strs ns,U,U,U,U,U,U,U,U,U,U,U,U,U,U,U,U,U,U,U,U,U,U,U,U,U,U,U,U,U,U,U,U,U,U,U,U,U,U,U,U]) av) ?_;refine eh ?_;refine G ?_;refine GW.range (ns.map fun s=>[GV.v (sv s)]).length (fun k fr Γ=>fr=[U,.loc 0 0,U,U,strs ns,U,U,U,U,U,U,U,U,U,U,strs ns,.v (ii ((ns.map fun s=>[GV.v (sv s)]).length:Int)),.v (ii (k:Nat)),U,U,U,U,U,U,U,U,U,U,U,U,U,U,U,U,U,U,U,U,U,U,U,U,U,U,U,U,U,U,U,U,U,U,U,U,U]/\Γ=[.box 34 (ao p)]/\∀ j,j < k->kv ns j=false) ?_ ag ?_ ?_ ?_
 ·exact ⟨_,_,Wk.aK av,rfl,rfl,fun j hj=>absurd hj (Nat.not_lt_zero _)⟩
 ·exact ig
 ·rintro k _ _ ar ⟨rfl,rfl,aY⟩;have nN:=ar;rw [eL] at ar;obtain ⟨x,hx⟩:∃ x,ns[k]?=some x:=⟨ns[k],by simp [ar]⟩
  have SM:(ns.map fun s=>[GV.v (sv s)])[k]?=some [.v (sv x)]:=by rw [aV,hx];rfl
  have hR:=OC x;have hC:=lx (ns.take k) x (by rw [fV];omega)
  have hd:kv ns k=(mY x || (ns.take k).contains x):=by unfold kv;rw [hx]
  unfold strs at hC;rw [map_take] at hC
  cases I:mY x with
  | true =>
   rw [I] at hR hd
   have qy:en ns=true:=by
    cases h:en ns with
    | true=>rfl
    | false=>rw [Dw.1 h k ar] at hd;simp at hd
   rw [ae qy];refine G ?_;refine D [] hR ?_;exact nj
  | false =>
   rw [I] at hR hd
   cases fv:(ns.take k).contains x with
   | true =>
    rw [fv] at hC hd
    have qy:en ns=true:=by
     cases h:en ns with
     | true=>rfl
     | false=>rw [Dw.1 h k ar] at hd;simp at hd
    rw [ae qy];refine G ?_;refine D [] hR ?_;refine GL.q (YG.F0 rfl rfl nN) ?_;refine eh ?_;refine G ?_;refine D [] hC ?_;exact nj
   | false =>
    rw [fv] at hC hd;refine G ?_;refine D [] hR ?_;refine GL.q (YG.F0 rfl rfl nN) ?_;refine eh ?_;refine G ?_;refine D [] hC ?_
    exact ⟨rfl,rfl,_,_,Wk.aK av,rfl,rfl,fun j hj=>by
     rcases Nat.lt_succ_iff_lt_or_eq.1 hj with h | rfl
     ·exact aY j h
     ·exact hd⟩
 ·rintro _ _ ⟨rfl,rfl,aY⟩;rw [eL] at aY;rw [ab (show ¬ en ns=true by rw [Dw.2 aY];decide)];refine be ?_
  cases tm with
  | true =>
   rw [ae rfl];refine G ?_;refine D [] hT ?_;exact nj
  | false =>
   rw [ab aM]
   cases hmn:p.fns.any nA with
   | false =>
    rw [hmn] at hM;rw [ae rfl];refine G ?_;refine D [] hT ?_;refine D [] hM ?_;exact nj
   | true =>
    rw [hmn] at hM;rw [ab aM];refine G ?_;refine D [] hT ?_;refine D [] hM ?_;refine GW.range (p.fns.map ay).length (fun k fr Γ=>fr=[U,.loc 0 0,U,U,U,U,U,U,U,U,U,U,U,U,U,U,U,U,U,U,U,U,U,U,U,U,U,U,U,U,U,U,U,U,U,U,U,U,U,.sl 3 (p.fns.map ay),.v (ii ((p.fns.map ay).length:Int)),.v (ii (k:Nat)),U,U,U,U,U,U,U,U,U,U,U,U,U]/\Γ=[.box 34 (ao p)]/\fZ p p.fns l 0=fZ p (p.fns.drop k) (l.drop k) (aC (l.take k))) ?_ ag ?_ ?_ ?_
    ·exact ⟨_,_,Wk.aK av,rfl,rfl,by rw [List.drop_zero,List.drop_zero,List.take_zero,aC]⟩
    ·exact ig
    ·rintro k _ _ ar ⟨rfl,rfl,he⟩;rw [wm] at ar;obtain ⟨f,hf⟩:∃ f,p.fns[k]?=some f:=⟨p.fns[k],by simp [ar]⟩;obtain ⟨t,ht⟩:∃ t,l[k]?=some t:=⟨l[k]'ag,eF _⟩;have hQ:=hq k f t hf ht
     have N1:p.fns.drop k=f::p.fns.drop (k+1):=by rw [nl ar];rw [eF ar] at hf;rw [Ae hf]
     have fw:l.drop k=t::l.drop (k+1):=by rw [nl ag];rw [eF ag] at ht;rw [Ae ht]
     rw [N1,fw,fZ,<-RE ht] at he
     cases I:((fY p f t (aC (l.take k))).1 != 0) with
     | true =>
      rw [ae (by simpa using I)] at he;rw [he];generalize fY p f t (aC (l.take k))=r at *;refine G ?_;refine D [] hQ ?_;exact nj
     | false =>
      rw [ab (by simpa using I)] at he;generalize fY p f t (aC (l.take k))=r at *;refine G ?_;refine D [] hQ ?_;exact ⟨rfl,rfl,_,_,Wk.aK av,rfl,rfl,he⟩
    ·rintro _ _ ⟨rfl,rfl,he⟩;rw [wm,List.drop_length,GQ] at he;rw [he];refine be ?_;exact r6
theorem NQ (p:Src) (c z:Int) (h:GF prog 80 [.agg (ao p)] [] (.tup [.v (ii c),.v (ii z)]) []):GF prog 66 [.agg (ao p)] [] (.v (.bool (c==0))) []:=by
 refine ai func66 ntmps66 ?_;refine D [] h ?_;exact ak
theorem Uc (p:Src) (fn:Int) (w g:Bool) (fL:p.fns.length<=1048576) (hg:GF prog 66 [.agg (ao p)] [] (.v (.bool g)) [])
  (hW:GF prog 65 [.v (ii fn),.v (ii 0),.v (ii (((p.fns.map ay).length:Int) - 1))] [] (.v (.bool w)) []):GF prog 49 [.agg (ao p),.v (ii fn)] [] (.v (.bool (w&&g))) []:=by
 have wm:(p.fns.map ay).length=p.fns.length:=by simp
 cases w with
 | false =>
  refine ai func49 ntmps49 ?_;refine D [] hW ?_;exact ak
 | true =>
  refine ai func49 ntmps49 ?_;refine D [] hW ?_;refine D [] hg ?_;exact ak
end Go.Xg
set_option maxHeartbeats 2000000
namespace Go.Xg
open GV (U)
open Go.RowKit Go.Xw Go.Proofs Tryz
open Go.Xp (Nd T Ar)
open Go.Sp (Src)
open Go.Im
attribute [local irreducible] GW GL GO YG GC GA ba bc
def cC (p:Src) (h:Value) (c:SS):List GV:=[strs p.globals,.sl 2 (p.arrays.map aL),.sl 3 (p.fns.map ay),.sl 5 (p.nodes.map aB),.v h,.v (ii c.code),.v (ii c.at_)]
theorem iY (p:Src) (h:Value) (c:SS) (k z:Int):GF prog 91 [.loc 0 0,.v (ii k),.v (ii z)] [.box 106 (cC p h c)] (.tup []) [.box 106 (cC p h (c.fail k z))]:=by
 unfold SS.fail
 cases hc:(c.code==0) with
 | true =>
  rw [ae (by simpa using hc)];unfold cC;refine ai func91 ntmps91 ?_;exact gL
 | false =>
  rw [ab (by simpa using hc)];unfold cC;refine ai func91 ntmps91 ?_;exact gL
theorem LY (s:ah):GF prog 89 [.v (sv s)] [] (.v (.bool (mY s))) []:=by
 unfold mY pV pW cD
 cases I:(s==[103,101,116])
 all_goals cases F:(s==[112,117,116])
 all_goals
  refine ai func89 ntmps89 ?_;exact ak
theorem CW (p:Src) (s:ah) (hn:p.arrays.length<=1099511627776):GF prog 92 [.agg (ao p),.v (sv s)] [] (.v (ii (cr (fun x:Ar=>x.name==s) p.arrays))) []:=by
 have eL:(p.arrays.map aL).length=p.arrays.length:=by simp
 refine ai func92 ntmps92 ?_;refine GW.range (p.arrays.map aL).length (fun k fr Γ=>fr=[U,.v (sv s),.loc 0 0,U,U,U,U,U,.sl 2 (p.arrays.map aL),.v (ii ((p.arrays.map aL).length:Int)),.v (ii (k:Nat)),U,U,U,U,U,U,U,U,U,U]/\Γ=[.box 34 (ao p)]/\(p.arrays.take k).all (fun y=>!(y.name==s))=true) ?_ ag ?_ ?_ ?_
 ·exact jW
 ·exact ig
 ·rintro k _ _ ar ⟨rfl,rfl,aY⟩;rw [eL] at ar;obtain ⟨x,de⟩:∃ x,p.arrays[k]?=some x:=⟨p.arrays[k],by simp [ar]⟩
  have hr:(p.arrays.map aL)[k]?=some (aL x):=by rw [aV,de];rfl
  have bB:=mU (f:=fun y:Ar=>y.name==s) de
  have hit:=fun h0=>oR (f:=fun y:Ar=>y.name==s) de h0 aY
  unfold aL at hr
  cases hb:(x.name==s) with
  | true =>
   rw [hit hb];exact ax
  | false =>
   refine G ?_;exact ⟨rfl,rfl,_,_,(Wk.cut (n:=1) (aX _) rfl).trans (Wk.aK av),rfl,rfl,by rw [bB,aY,hb];rfl⟩
 ·rintro _ _ ⟨rfl,rfl,aY⟩;rw [eL,cy] at aY;rw [lX aY];exact ax
theorem tP (p:Src) (s:ah) (hn:p.fns.length<=1099511627776):GF prog 35 [.agg (ao p),.v (sv s)] [] (.v (ii (cr (fun x:Go.Sp.Fn=>x.name==s) p.fns))) []:=by
 have eL:(p.fns.map ay).length=p.fns.length:=by simp
 refine ai func35 ntmps35 ?_;refine GW.range (p.fns.map ay).length (fun k fr Γ=>fr=[U,.v (sv s),.loc 0 0,U,U,U,U,U,.sl 3 (p.fns.map ay),.v (ii ((p.fns.map ay).length:Int)),.v (ii (k:Nat)),U,U,U,U,U,U,U,U,U,U]/\Γ=[.box 34 (ao p)]/\(p.fns.take k).all (fun y=>!(y.name==s))=true) ?_ ag ?_ ?_ ?_
 ·exact jW
 ·exact ig
 ·rintro k _ _ ar ⟨rfl,rfl,aY⟩;rw [eL] at ar;obtain ⟨x,de⟩:∃ x,p.fns[k]?=some x:=⟨p.fns[k],by simp [ar]⟩
  have hr:(p.fns.map ay)[k]?=some (ay x):=by rw [aV,de];rfl
  have bB:=mU (f:=fun y:Go.Sp.Fn=>y.name==s) de
  have hit:=fun h0=>oR (f:=fun y:Go.Sp.Fn=>y.name==s) de h0 aY
  unfold ay at hr
  cases hb:(x.name==s) with
  | true =>
   rw [hit hb];exact ax
  | false =>
   refine G ?_;exact ⟨rfl,rfl,_,_,(Wk.cut (n:=1) (aX _) rfl).trans (Wk.aK av),rfl,rfl,by rw [bB,aY,hb];rfl⟩
 ·rintro _ _ ⟨rfl,rfl,aY⟩;rw [eL,cy] at aY;rw [lX aY];exact ax
theorem xu (l:List Int) (n:Int) (hn:l.length<=1099511627776):GF prog 42 [ints l,.v (ii n)] [] (.v (.bool (l.contains n))) []:=by
 have eL:(l.map fun i=>[GV.v (ii i)]).length=l.length:=by simp
 refine ai func42 ntmps42 ?_;refine GW.range (l.map fun i=>[GV.v (ii i)]).length (fun k fr Γ=>fr=[ints l,.v (ii n),U,U,U,U,U,ints l,.v (ii ((l.map fun i=>[GV.v (ii i)]).length:Int)),.v (ii (k:Nat)),U,U,U,U,U,U,U]/\Γ=[]/\(l.take k).contains n=false) ?_ ag ?_ ?_ ?_
 ·exact jW
 ·exact ig
 ·rintro k _ _ ar ⟨rfl,rfl,hc⟩;rw [eL] at ar;obtain ⟨x,de⟩:∃ x,l[k]?=some x:=⟨l[k],by simp [ar]⟩;have hr:=iR de
  have bB:(l.take (k+1)).contains n=((l.take k).contains n || (x==n)):=by
   rw [cq,de,List.contains_append];show (_ || [x].contains n)=_
   congr 1
   rw [List.contains_cons,List.contains_nil,Bool.or_false];exact Bool.beq_comm
  have hm:=bm de
  cases hb:(x==n) with
  | true =>
   have h3:x=n:=by simpa using hb
   rw [show l.contains n=true by rw [<-h3];exact ej.2 hm];exact ax
  | false =>
   refine G ?_;exact ⟨rfl,rfl,_,_,Wk.aK av,rfl,rfl,by rw [bB,hc,hb];rfl⟩
 ·rintro _ _ ⟨rfl,rfl,hc⟩;rw [eL,cy] at hc;rw [hc];exact ax
end Go.Xg
set_option maxHeartbeats 4000000
namespace Go.Im
open Go.Xp Go.Sp
def yn (l:List ah) (k:Nat):Bool:=(List.range k).any (oP l)
theorem EK (l:List ah) (k:Nat):yn l (k+1)=(yn l k || oP l k):=by
 unfold yn;rw [List.range_succ,List.any_append];simp
def ll (f:Go.Sp.Fn) (c:SS) (k:Nat):SS:=⟨f.params.take k,if yn f.params k=true then gT c.code 21 else c.code,if yn f.params k=true/\c.code=0 then 0 else c.at_⟩
theorem Rf {f:Go.Sp.Fn} {c:SS} {k:Nat} (h:oP f.params k=true):(ll f c (k+1)).code=((ll f c k).fail 21 0).code/\(ll f c (k+1)).at_=((ll f c k).fail 21 0).at_:=by
 unfold ll SS.fail;simp only [EK,h,Bool.or_true,true_and,if_true];unfold gT
 cases yn f.params k <;> by_cases h0:c.code=0 <;> simp [h0]
theorem O6 {f:Go.Sp.Fn} {c:SS} {k:Nat} (h:oP f.params k=false):(ll f c (k+1)).code=(ll f c k).code/\(ll f c (k+1)).at_=(ll f c k).at_:=by
 unfold ll;simp only [EK,h,Bool.or_false,and_self]
end Go.Im
namespace Go.Xg
open GV (U)
open Go.RowKit Go.Xw Go.Proofs Tryz
open Go.Xp (Nd T Ar aO aC)
open Go.Sp (Src)
open Go.Im
attribute [local irreducible] GW GL GO YG GC GA ba bc
theorem I4 (p:Src) (h0:Value) (c:SS) (f:Go.Sp.Fn) (xk:f.params.length<=1048576) :
  GC prog 76 [.loc 0 0,.agg (ay f)] [.box 106 (cC p h0 c)] fun g Δ=>g=.tup []/\∃ ad cp,Δ=[.box 106 (cC p (.slice ad f.params.length cp) (rf f c)),.vech 9 1 (cQ f.params) (.slice ad f.params.length cp)]:=by
 have eL:(f.params.map fun s=>[GV.v (sv s)]).length=f.params.length:=by simp
 have qe:rf f c=⟨f.params,(ll f c f.params.length).code,(ll f c f.params.length).at_⟩:=by
  unfold rf ll yn vH;rfl
 rw [qe]
 have ou:(ll f c 0).code=c.code/\(ll f c 0).at_=c.at_:=by unfold ll yn;simp
 rw [show cC p h0 c=cC p h0 (ll f c 0) by unfold cC;rw [ou.1,ou.2]];unfold cC ay;refine dT func76 ntmps76 ?_;refine GW.wk (Wk.q6 9 1) ?_;simp only [List.cons_append,nil_append];refine G ?_;refine GW.range (f.params.map fun s=>[GV.v (sv s)]).length (fun k fr Γ=>∃ ad cp R n B,fr=[.loc 0 0,U,U,.loc 2 0,U,U,U,U,U,U,strs f.params,.v (ii ((f.params.map fun s=>[GV.v (sv s)]).length:Int)),.v (ii (k:Nat)),U,U,U,U,U,U,U,U,U,U,U,U,U,U,U,U,U,U,U,U,U,U]/\Γ=[.box 106 (cC p (.slice ad n cp) (ll f c k)),.vech 9 1 R (.slice ad n cp),B]/\R.length=n/\R=cQ (f.params.take k)) ?_ ag ?_ ?_ ?_
 ·exact ⟨_,_,Wk.aK av,none,0,[],0,_,rfl,rfl,rfl,by simp [cQ]⟩
 ·rintro k _ _ ⟨ad,cp,R,n,B,rfl,rfl,_⟩;exact dI
 ·rintro k _ _ ar ⟨ad,cp,R,n,B,rfl,rfl,jy,hR⟩;rw [eL] at ar;obtain ⟨x,hx⟩:∃ x,f.params[k]?=some x:=⟨f.params[k],by simp [ar]⟩
  have SM:(f.params.map fun s=>[GV.v (sv s)])[k]?=some [.v (sv x)]:=by rw [aV,hx];rfl
  have bB:cQ (f.params.take (k+1))=R++[[.v (sv x)]]:=by rw [cq,hx,hR];simp [cQ]
  have vm:n<=1048576:=by rw [<-jy,hR,tV,fV];omega
  have hL:GF prog 90 [.sl 1 R,.v (sv x)] [] (.v (.bool ((f.params.take k).contains x))) []:=by
   rw [hR];exact jT (f.params.take k) x (by rw [fV];omega)
  have hd:oP f.params k=(f.params.take k).contains x:=by unfold oP;rw [hx]
  rw [<-hd] at hL;have iJ:=iY p (.slice ad n cp) (ll f c k) 21 0;clear hR
  cases hb:oP f.params k with
  | true =>
   rw [hb] at hL;obtain ⟨e1,e2⟩:=Rf (c:=c) hb;unfold cC at iJ |-;rw [e1,e2];generalize (ll f c k).fail 21 0=s1 at *;generalize ll f c k=s0 at *;refine G ?_;refine GL.borrow hL (fun B K β w l hI hF=>iT (A:=[_]) (C:=[_]) hI hF rfl rfl) ?_;refine eh ?_;refine G ?_;refine D [0] iJ ?_;refine GL.lP 1 rfl rfl rfl rfl rfl rfl rfl rfl bf oK ?_;intro su sx;refine cm ?_;refine G ?_;exact ⟨rfl,rfl,_,_,Wk.aK av,su,sx,_,_,_,rfl,rfl,by simp [jy],bB.symm⟩
  | false =>
   rw [hb] at hL;obtain ⟨e1,e2⟩:=O6 (c:=c) hb;unfold cC at iJ |-;rw [e1,e2];generalize ll f c k=s0 at *;refine G ?_;refine GL.borrow hL (fun B K β w l hI hF=>iT (A:=[_]) (C:=[_]) hI hF rfl rfl) ?_;refine eh ?_;refine G ?_;refine GL.lP 1 rfl rfl rfl rfl rfl rfl rfl rfl bf oK ?_;intro su sx;refine cm ?_;refine G ?_;exact ⟨rfl,rfl,_,_,Wk.aK av,su,sx,_,_,_,rfl,rfl,by simp [jy],bB.symm⟩
 ·rintro _ _ ⟨ad,cp,R,n,B,rfl,rfl,jy,hR⟩;rw [eL] at hR |-;rw [cy] at hR
  have tf:n=f.params.length:=by rw [<-jy,hR,tV]
  subst tf;refine G ?_;refine nS ?_;exact Vz (n:=2) rfl dH (fi rfl) rfl ⟨rfl,ad,cp,by rw [hR];rfl⟩
def cO (p:Src) (c:SS) (ls:List ah) (ad:Option Addr) (cp:Nat):List Ob:=[.box 106 (cC p (.slice ad ls.length cp) c),.vech 9 1 (cQ ls) (.slice ad ls.length cp)]
theorem I2 (p:Src) (c:SS) (n:Nd) (l:List T) (ad:Option Addr) (cp:Nat) (I:(n.s==[103,101,116])=true) (hl:l.length<=1099511627776) :
  GF prog 93 [.loc 0 0,.agg (cT (.mk n l))] (cO p c c.ls ad cp) (.v (.bool true)) (cO p (fh c n l.length 0) c.ls ad cp):=by
 have eR:(aU l).length=l.length:=aW l;unfold cO;unfold fh;show GF _ _ _ _ (.v (.bool true)) [.box _ (cC p _ (if l.length≠0 then _ else _)),_];have iJ:=iY p (.slice ad c.ls.length cp) c 23 n.at_;unfold cC at iJ |-
 cases hk:(((aU l).length:Int) != ((0:Nat):Int)) with
 | true =>
  rw [ae (show l.length≠0 by rw [eR,bne_iff_ne] at hk;omega)];generalize c.fail 23 n.at_=c1 at *;refine ai func93 ntmps93 ?_;refine D [0] iJ ?_;exact ak
 | false =>
  rw [ab (show ¬ l.length≠0 by rw [eR,bne_eq_false_iff_eq] at hk;omega)];refine ai func93 ntmps93 ?_;exact ak
theorem I3 (p:Src) (c:SS) (n:Nd) (l:List T) (ad:Option Addr) (cp:Nat) (I:(n.s==[103,101,116])=false) (F:(n.s==[112,117,116])=true) (hl:l.length<=1099511627776) :
  GF prog 93 [.loc 0 0,.agg (cT (.mk n l))] (cO p c c.ls ad cp) (.v (.bool true)) (cO p (fh c n l.length 1) c.ls ad cp):=by
 have eR:(aU l).length=l.length:=aW l;unfold cO;unfold fh;show GF _ _ _ _ (.v (.bool true)) [.box _ (cC p _ (if l.length≠1 then _ else _)),_];have iJ:=iY p (.slice ad c.ls.length cp) c 23 n.at_;unfold cC at iJ |-
 cases hk:(((aU l).length:Int) != ((1:Nat):Int)) with
 | true =>
  rw [ae (show l.length≠1 by rw [eR,bne_iff_ne] at hk;omega)];generalize c.fail 23 n.at_=c1 at *;refine ai func93 ntmps93 ?_;refine D [0] iJ ?_;exact ak
 | false =>
  rw [ab (show ¬ l.length≠1 by rw [eR,bne_eq_false_iff_eq] at hk;omega)];refine ai func93 ntmps93 ?_;exact ak
theorem LV (p:Src) (c:SS) (n:Nd) (l:List T) (ad:Option Addr) (cp:Nat) (I:(n.s==[103,101,116])=false) (F:(n.s==[112,117,116])=false) (h3:(n.s==[115,105,122,101])=false) (hl:l.length<=1099511627776)
  (hF:GF prog 35 [.agg (ao p),.v (sv n.s)] [] (.v (ii (-1))) []) :
  GF prog 93 [.loc 0 0,.agg (cT (.mk n l))] (cO p c c.ls ad cp) (.v (.bool false)) (cO p (c.fail 22 n.at_) c.ls ad cp):=by
 have iJ:=iY p (.slice ad c.ls.length cp) c 22 n.at_
 have hd:decide ((-1:Int) < 0)=true:=by decide
 unfold cO;unfold cC at iJ |-;generalize c.fail 22 n.at_=c1 at *;refine ai func93 ntmps93 ?_;refine aJ (aD 0 7 (.a 7 (.q 8 .nil))) ?_;refine au ?_;refine az [] hF ?_;refine G ?_;refine D [0] iJ ?_;exact ak
theorem LU (p:Src) (c:SS) (n:Nd) (l:List T) (i:Nat) (f:Go.Sp.Fn) (ad:Option Addr) (cp:Nat) (I:(n.s==[103,101,116])=false) (F:(n.s==[112,117,116])=false) (h3:(n.s==[115,105,122,101])=false) (hl:l.length<=1099511627776)
  (hf:p.fns[i]?=some f) (hF:GF prog 35 [.agg (ao p),.v (sv n.s)] [] (.v (ii ((i:Nat):Int))) []) :
  GF prog 93 [.loc 0 0,.agg (cT (.mk n l))] (cO p c c.ls ad cp) (.v (.bool true)) (cO p (fh c n l.length f.params.length) c.ls ad cp):=by
 have eR:(aU l).length=l.length:=aW l
 have hd:decide (((i:Nat):Int) < 0)=false:=by simp
 have hr:(p.fns.map ay)[i]?=some (ay f):=by rw [aV,hf];rfl
 have cX:(f.params.map fun s=>[GV.v (sv s)]).length=f.params.length:=by simp
 unfold ay at hr;rw [<-cX];unfold cO;unfold fh;show GF _ _ _ _ (.v (.bool true)) [.box _ (cC p _ (if l.length≠(f.params.map fun s=>[GV.v (sv s)]).length then _ else _)),_];have iJ:=iY p (.slice ad c.ls.length cp) c 23 n.at_;unfold cC at iJ |-
 cases hk:(((aU l).length:Int) != (((f.params.map fun s=>[GV.v (sv s)]).length:Nat):Int)) with
 | true =>
  rw [ae (show l.length≠(f.params.map fun s=>[GV.v (sv s)]).length by rw [eR,bne_iff_ne] at hk;omega)];generalize c.fail 23 n.at_=c1 at *;refine ai func93 ntmps93 ?_;refine aJ (aD 0 7 (.a 7 (.q 8 .nil))) ?_;refine au ?_;refine az [] hF ?_;refine G ?_;refine D [0] iJ ?_;exact ak
 | false =>
  rw [ab (show ¬ l.length≠(f.params.map fun s=>[GV.v (sv s)]).length by rw [eR,bne_eq_false_iff_eq] at hk;omega)];refine ai func93 ntmps93 ?_;refine aJ (aD 0 7 (.a 7 (.q 8 .nil))) ?_;refine au ?_;refine az [] hF ?_;exact ax
theorem FL (p:Src) (c:SS) (n:Nd) (u:T) (ad:Option Addr) (cp:Nat) (I:(n.s==[103,101,116])=false) (F:(n.s==[112,117,116])=false) (h3:(n.s==[115,105,122,101])=true) (jX:p.arrays.length<=1099511627776) (mu:c.ls.length<=1099511627776) :
  GF prog 93 [.loc 0 0,.agg (cT (.mk n [u]))] (cO p c c.ls ad cp) (.v (.bool false)) (cO p (if fJ p u.n c.ls=true then c.fail 24 n.at_ else c) c.ls ad cp):=by
 have sG:(aU [u])[0]?=some (cT u):=cI rfl;have hA:=CW p u.n.s jX;have hL:=jT c.ls u.n.s mu;have iJ:=iY p (.slice ad c.ls.length cp) c 24 n.at_;rw [show fJ p u.n c.ls=((u.n.kind != 2 || decide (cr (fun x:Ar=>x.name==u.n.s) p.arrays < 0)) || c.ls.contains u.n.s) from rfl];generalize cr (fun x:Ar=>x.name==u.n.s) p.arrays=z at *;unfold cO;unfold cC at iJ |-
 cases h4:(u.n.kind != 2) with
 | true =>
  rw [ae (by first | rfl | decide)];generalize c.fail 24 n.at_=c1 at *;refine ai func93 ntmps93 ?_;refine aJ (aD 0 21 (.a 21 (aD 22 13 (.a 35 (.q 36 (.q 37 .nil)))))) ?_;refine au ?_;refine bj ?_;refine D [0] iJ ?_;exact ak
 | false =>
  cases h5:decide (z < 0) with
  | true =>
   rw [ae (by first | rfl | decide)];generalize c.fail 24 n.at_=c1 at *;refine ai func93 ntmps93 ?_;refine aJ (aD 0 21 (.a 21 (aD 22 13 (.a 35 (.q 36 (.q 37 .nil)))))) ?_;refine au ?_;refine bL [] hA ?_;refine bj ?_;refine D [0] iJ ?_;exact ak
  | false =>
   generalize c.ls.contains u.n.s=b at *
   cases b with
   | true =>
    rw [ae (by first | rfl | decide)];generalize c.fail 24 n.at_=c1 at *;refine ai func93 ntmps93 ?_;refine aJ (aD 0 21 (.a 21 (aD 22 13 (.a 35 (.q 36 (.q 37 .nil)))))) ?_;refine au ?_;refine bL [] hA ?_;refine R4 rfl rfl rfl (by first | exact rfl | assumption) (GL.borrow hL (fun B K β w l hI hF=>iT (A:=[_]) (C:=[_]) hI hF rfl rfl) ?_);refine dE ?_;refine bj ?_;refine D [0] iJ ?_;exact ak
   | false =>
    rw [ab aM];refine ai func93 ntmps93 ?_;refine aJ (aD 0 21 (.a 21 (aD 22 13 (.a 35 (.q 36 (.q 37 .nil)))))) ?_;refine au ?_;refine bL [] hA ?_;refine R4 rfl rfl rfl (by first | exact rfl | assumption) (GL.borrow hL (fun B K β w l hI hF=>iT (A:=[_]) (C:=[_]) hI hF rfl rfl) ?_);refine dE ?_;refine au ?_;exact ax
theorem FM (p:Src) (c:SS) (n:Nd) (l:List T) (ad:Option Addr) (cp:Nat) (I:(n.s==[103,101,116])=false) (F:(n.s==[112,117,116])=false) (h3:(n.s==[115,105,122,101])=true) (hl:l.length≠1) :
  GF prog 93 [.loc 0 0,.agg (cT (.mk n l))] (cO p c c.ls ad cp) (.v (.bool false)) (cO p (c.fail 23 n.at_) c.ls ad cp):=by
 have iJ:=iY p (.slice ad c.ls.length cp) c 23 n.at_;have eR:(aU l).length=l.length:=aW l
 have g1:(((aU l).length:Int)==1)=false:=by rw [eR,beq_eq_false_iff_ne];omega
 have g2:(((aU l).length:Int) != 1)=true:=by rw [eR,bne_iff_ne];omega
 unfold cO;unfold cC at iJ |-;generalize c.fail 23 n.at_=c1 at *;refine ai func93 ntmps93 ?_;refine aJ (aD 0 21 (.a 21 (aD 22 13 (.a 35 (.q 36 (.q 37 .nil)))))) ?_;refine bj ?_;refine D [0] iJ ?_;exact ak
theorem OI (p:Src) (c:SS) (t:T) (ad:Option Addr) (cp:Nat) (jX:p.arrays.length<=1099511627776) (fL:p.fns.length<=1099511627776) (mu:c.ls.length<=1099511627776) (hl:t.kids.length<=1099511627776) :
  GF prog 93 [.loc 0 0,.agg (cT t)] (cO p c c.ls ad cp) (.v (.bool (gm p c t).2)) (cO p (gm p c t).1 c.ls ad cp):=by
 cases t with
 | mk n l =>
 have hl:l.length<=1099511627776:=hl
 cases I:(n.s==[103,101,116]) with
 | true =>
  have e:gm p c (.mk n l)=(fh c n l.length 0,true):=by
   unfold gm pV;exact ae (show n.s=_ by simpa using I)
  rw [e];exact I2 p c n l ad cp I hl
 | false =>
  have n1:¬ n.s=[103,101,116]:=by simpa using I
  cases F:(n.s==[112,117,116]) with
  | true =>
   have e:gm p c (.mk n l)=(fh c n l.length 1,true):=by
    unfold gm pV pW;rw [ab (show ¬ (T.mk n l).n.s=_ from n1)];exact ae (show n.s=_ by simpa using F)
   rw [e];exact I3 p c n l ad cp I F hl
  | false =>
   have n2:¬ n.s=[112,117,116]:=by simpa using F
   cases h3:(n.s==[115,105,122,101]) with
   | true =>
    have e:gm p c (.mk n l)=(fh (if l.length=1/\fJ p (mZ (.mk n l)) c.ls=true then c.fail 24 n.at_ else c) n l.length 1,false):=by
     unfold gm pV pW cD;rw [ab (show ¬ (T.mk n l).n.s=_ from n1),ab (show ¬ (T.mk n l).n.s=_ from n2)];exact ae (show n.s=_ by simpa using h3)
    rw [e]
    by_cases hk:l.length=1
    ·obtain ⟨u,rfl⟩:∃ u,l=[u]:=by
      match l,hk with
      | [u],_=>exact ⟨u,rfl⟩
     have e2:fh (if [u].length=1/\fJ p (mZ (.mk n [u])) c.ls=true then c.fail 24 n.at_ else c) n [u].length 1=(if fJ p u.n c.ls=true then c.fail 24 n.at_ else c):=by
      unfold fh;rw [ab (by simp)];show (if _/\fJ p u.n c.ls=true then _ else _)=_
      by_cases hb:fJ p u.n c.ls=true
      ·rw [ae hb];exact ae ⟨rfl,hb⟩
      ·rw [ab hb];exact ab fun h=>hb h.2
     rw [e2];exact FL p c n u ad cp I F h3 jX mu
    ·have e2:fh (if l.length=1/\fJ p (mZ (.mk n l)) c.ls=true then c.fail 24 n.at_ else c) n l.length 1=c.fail 23 n.at_:=by
      rw [ab fun h=>hk h.1];unfold fh;exact ae hk
     rw [e2];exact FM p c n l ad cp I F h3 hk
   | false =>
    have n3:¬ n.s=[115,105,122,101]:=by simpa using h3
    have hF:=tP p n.s fL;unfold cr at hF
    cases hx:p.fns.findIdx? (fun f:Go.Sp.Fn=>f.name==n.s) with
    | none =>
     rw [hx] at hF
     have e:gm p c (.mk n l)=(c.fail 22 n.at_,false):=by
      unfold gm pV pW cD;rw [ab (show ¬ (T.mk n l).n.s=_ from n1),ab (show ¬ (T.mk n l).n.s=_ from n2),ab (show ¬ (T.mk n l).n.s=_ from n3)];show (match p.fns.findIdx? (fun f:Go.Sp.Fn=>f.name==n.s) with | none=>_ | some i=>_)=_;rw [hx];rfl
     rw [e];exact LV p c n l ad cp I F h3 hl hF
    | some i =>
     rw [hx] at hF;have hi:i < p.fns.length:=(List.findIdx?_eq_some_iff_getElem.1 hx).1;obtain ⟨f,hf⟩:∃ f,p.fns[i]?=some f:=⟨p.fns[i],by simp [hi]⟩
     have e:gm p c (.mk n l)=(fh c n l.length f.params.length,true):=by
      unfold gm pV pW cD;rw [ab (show ¬ (T.mk n l).n.s=_ from n1),ab (show ¬ (T.mk n l).n.s=_ from n2),ab (show ¬ (T.mk n l).n.s=_ from n3)];show (match p.fns.findIdx? (fun f:Go.Sp.Fn=>f.name==n.s) with | none=>_ | some i=>_)=_;rw [hx];show (fh c n l.length (mw p i),true)=_;unfold mw;rw [hf]
     rw [e];exact LU p c n l i f ad cp I F h3 hl hf hF
end Go.Xg
namespace Go.Im
open Go.Xp Go.Sp
theorem Fm (p:Src) (u:T):∀ (l:List T) (c:SS),ja p (l++[u]) c=nZ p u (ja p l c)
 | [],c=>by rw [nil_append,ja,ja,ja]
 | t::l,c=>by rw [List.cons_append,ja,ja,Fm p u l]
theorem OY (p:Src) {l:List T} {k:Nat} {u:T} (h:l[k]?=some u) (c:SS):ja p (l.take (k+1)) c=nZ p u (ja p (l.take k) c):=by
 rw [cq,h];exact Fm p u _ c
theorem RN (c:SS) (n:Nd):(mC c n).ls.length<=c.ls.length+1:=by
 unfold mC;split
 ·omega
 split
 ·simp [SS.oQ]
 split
 ·simp [SS.oQ]
 ·simp
mutual
theorem Uq (p:Src):∀ (t:T) (c:SS),(nZ p t c).ls.length<=c.ls.length+aO t
 | .mk n l,c=>by
  rw [nZ,aO];refine km (RN _ _) ?_;split
  ·have:=xA p l (jU p c (.mk n l)).1;rw [wI] at this;omega
  ·rw [wI];omega
theorem xA (p:Src):∀ (l:List T) (c:SS),(ja p l c).ls.length<=c.ls.length+aC l
 | [],c=>by rw [ja,aC];omega
 | t::r,c=>by
  rw [ja,aC];have I:=xA p r (nZ p t c);have F:=Uq p t c;omega
end
end Go.Im
namespace Go.Xg
open GV (U)
open Go.RowKit Go.Xw Go.Proofs Tryz
open Go.Xp (Nd T Ar aO aC bZ)
open Go.Sp (Src)
open Go.Im
attribute [local irreducible] GW GL GO YG GC GA ba bc
theorem OJ (p:Src) (jX:p.arrays.length<=1099511627776) (fL:p.fns.length<=1099511627776) (lF:p.globals.length<=1099511627776):∀ (N:Nat) (t:T),aO t<=N->∀ (c:SS) (ad:Option Addr) (cp:Nat),c.ls.length+aO t<=8388608 ->
  GC prog 77 [.loc 0 0,.agg (cT t)] (cO p c c.ls ad cp) fun g Δ=>g=.tup []/\∃ np nq,Δ=cO p (nZ p t c) (nZ p t c).ls np nq:=by
 intro N
 induction N with
 | zero=>intro t h;have:=jq t;omega
 | succ N ih =>
 intro t hN c ad cp mu
 cases t with
 | mk n l =>
 rw [Go.Xp.aO] at hN mu;have ow:=bZ l;have eR:(aU l).length=l.length:=aW l;rw [nZ];have cX:=wI p c (.mk n l);have hL:=jT c.ls n.s ag;have hG:=jT p.globals n.s lF;have hA:=CW p n.s jX;have hC:=OI p c (.mk n l) ad cp jX fL ag (by show l.length<=_;omega);have Sm:=iY p (.slice ad c.ls.length cp) c 22 n.at_;have JY:=iY p (.slice ad c.ls.length cp) c 24 n.at_
 have he:jU p c (.mk n l)=(if n.kind=2\/n.kind=7 then (if c.ls.contains n.s=false/\p.globals.contains n.s=false then c.fail 22 n.at_ else c,true)
  else if n.kind=3\/n.kind=8 then (if c.ls.contains n.s=true\/cr (fun x:Ar=>x.name==n.s) p.arrays < 0 then c.fail 24 n.at_ else c,true)
  else if n.kind=4 then gm p c (.mk n l) else (c,true)):=rfl
 obtain ⟨P,hP⟩:∃ P,jU p c (.mk n l)=P:=⟨_,rfl⟩;rw [hP] at he cX |-;unfold cO at hC |-;unfold cC at hC Sm JY |-;refine ai func77 ntmps77 ?_;refine aJ (aD 0 6 (.a 6 (.q 7 .nil))) ?_;refine au ?_;refine OA rfl rfl (GL.borrow hL (fun B K β w l hI hF=>iT (A:=[_]) (C:=[_,_]) hI hF rfl rfl) ?_);refine dE ?_;refine au ?_;refine KX ?_;refine GW.join (fun fr Γ=>fr=[.loc 0 0,U,U,.loc 2 0,.loc 3 0,U,.v (.bool P.2),U,U,U,U,U,U,U,U,U,U,U,U,U,U,U,U,U,U,U,U,U,U,U,U,U,U,U,U,U,U,U,U,U,U,U,U,U,U,U,U,U,U,U,U,U,U,U,U,U,U,U,U,U,U,U,U,U,U,U,U,U,U,U,U,U,U,U,U,U,U,U,U,U,U,U,U,U,U,U,U,U,U,U,U,U,U,U,U,U,U,U,U,U,U,U,U,U,U,U,U,U,U,U]/\Γ=[.box 106 (cC p (.slice ad c.ls.length cp) P.1),.vech 9 1 (cQ c.ls) (.slice ad c.ls.length cp),.box 75 (cT (.mk n l)),.box 60 (aB n)]) ?_ ?_
 ·obtain ⟨kd,at_,nn,s,ks⟩:=n;simp only at *;unfold cC;generalize gm p c (.mk ⟨kd,at_,nn,s,ks⟩ l)=cs at *;generalize cr (fun x:Ar=>x.name==s) p.arrays=z at *;generalize c.ls.contains s=b at *;generalize p.globals.contains s=g at *;generalize c.fail 22 at_=c22 at *;generalize c.fail 24 at_=c24 at *
  by_cases F:kd=2
  ·subst F
   have q2:((2:Int)==2)=true:=by decide
   rw [ae aM] at he;subst he
   cases b with
   | true =>
    refine G ?_;refine aJ (aD 0 10 (.a 10 (.q 11 (.q 12 .nil)))) ?_;refine bj ?_;exact jb
   | false =>
    cases g with
    | true =>
     refine G ?_;refine aJ (aD 0 10 (.a 10 (.q 11 (.q 12 .nil)))) ?_;refine au ?_;refine bL [] hG ?_;exact jd
    | false =>
     refine G ?_;refine aJ (aD 0 10 (.a 10 (.q 11 (.q 12 .nil)))) ?_;refine au ?_;refine bL [] hG ?_;refine G ?_;refine D [0] Sm ?_;exact jb
  by_cases h7:kd=7
  ·subst h7
   have q2:((7:Int)==2)=false:=by decide
   have q7:((7:Int)==7)=true:=by decide
   rw [ae aM] at he;subst he
   cases b with
   | true =>
    refine G ?_;refine aJ (aD 0 10 (.a 10 (.q 11 (.q 12 .nil)))) ?_;refine bj ?_;exact jb
   | false =>
    cases g with
    | true =>
     refine G ?_;refine aJ (aD 0 10 (.a 10 (.q 11 (.q 12 .nil)))) ?_;refine au ?_;refine bL [] hG ?_;exact jd
    | false =>
     refine G ?_;refine aJ (aD 0 10 (.a 10 (.q 11 (.q 12 .nil)))) ?_;refine au ?_;refine bL [] hG ?_;refine G ?_;refine D [0] Sm ?_;exact jb
  rw [ab (by rintro (h | h);(· exact F h);exact h7 h)] at he
  by_cases h3:kd=3
  ·subst h3
   have q2:((3:Int)==2)=false:=by decide
   have q7:((3:Int)==7)=false:=by decide
   have q3:((3:Int)==3)=true:=by decide
   rw [ae aM] at he
   cases b with
   | true =>
    subst he;refine G ?_;refine aJ (aD 0 8 (.a 8 (.q 9 (.q 10 .nil)))) ?_;refine bj ?_;refine D [0] JY ?_;exact jb
   | false =>
    cases hz:decide (z < 0) with
    | true =>
     rw [ae (.inr (by simpa using hz))] at he;subst he;refine G ?_;refine aJ (aD 0 8 (.a 8 (.q 9 (.q 10 .nil)))) ?_;refine au ?_;refine bL [] hA ?_;refine G ?_;refine D [0] JY ?_;exact jb
    | false =>
     rw [ab (by rintro (h | h);(· cases h);(· simp at hz;omega))] at he;subst he;refine G ?_;refine aJ (aD 0 8 (.a 8 (.q 9 (.q 10 .nil)))) ?_;refine au ?_;refine bL [] hA ?_;exact jd
  by_cases h8:kd=8
  ·subst h8
   have q2:((8:Int)==2)=false:=by decide
   have q7:((8:Int)==7)=false:=by decide
   have q3:((8:Int)==3)=false:=by decide
   have q8:((8:Int)==8)=true:=by decide
   rw [ae aM] at he
   cases b with
   | true =>
    subst he;refine G ?_;refine aJ (aD 0 8 (.a 8 (.q 9 (.q 10 .nil)))) ?_;refine bj ?_;refine D [0] JY ?_;exact jb
   | false =>
    cases hz:decide (z < 0) with
    | true =>
     rw [ae (.inr (by simpa using hz))] at he;subst he;refine G ?_;refine aJ (aD 0 8 (.a 8 (.q 9 (.q 10 .nil)))) ?_;refine au ?_;refine bL [] hA ?_;refine G ?_;refine D [0] JY ?_;exact jb
    | false =>
     rw [ab (by rintro (h | h);(· cases h);(· simp at hz;omega))] at he;subst he;refine G ?_;refine aJ (aD 0 8 (.a 8 (.q 9 (.q 10 .nil)))) ?_;refine au ?_;refine bL [] hA ?_;exact jd
  rw [ab (by rintro (h | h);(· exact h3 h);exact h8 h)] at he
  by_cases h4:kd=4
  ·subst h4
   have q2:((4:Int)==2)=false:=by decide
   have q7:((4:Int)==7)=false:=by decide
   have q3:((4:Int)==3)=false:=by decide
   have q8:((4:Int)==8)=false:=by decide
   have q4:((4:Int)==4)=true:=by decide
   rw [ae rfl] at he;subst he;refine G ?_;refine D [0,1] hC ?_;exact jb
  rw [ab h4] at he;subst he
  have q2:(kd==2)=false:=by simpa using F
  have q7:(kd==7)=false:=by simpa using h7
  have q3:(kd==3)=false:=by simpa using h3
  have q8:(kd==8)=false:=by simpa using h8
  have q4:(kd==4)=false:=by simpa using h4
  exact jd
 ·rintro _ _ ⟨rfl,rfl⟩;clear he hC Sm JY;obtain ⟨c1,d⟩:=P;simp only at cX |-;rw [<-cX] at mu;rw [show cC p (.slice ad c.ls.length cp) c1=cC p (.slice ad c1.ls.length cp) c1 by rw [cX],<-cX];clear hL;refine G ?_;refine GW.range (aU l).length (fun k fr Γ=>∃ ad cp c2,fr=[.loc 0 0,U,U,.loc 2 0,.loc 3 0,U,.v (.bool d),U,U,U,U,U,U,U,U,U,U,U,U,U,U,U,U,U,U,U,U,U,U,U,U,U,U,U,U,U,U,U,U,U,U,U,U,U,U,U,U,U,U,U,U,U,U,U,U,U,U,U,U,U,U,U,U,U,.sl 6 (aU l),.v (ii ((aU l).length:Int)),.v (ii (k:Nat)),U,U,U,U,U,U,U,U,U,U,U,U,U,U,U,U,U,U,U,U,U,U,U,U,U,U,U,U,U,U,U,U,U,U,U,U,U,U,U,U,U,U,U]/\Γ=[.box 106 (cC p (.slice ad c2.ls.length cp) c2),.vech 9 1 (cQ c2.ls) (.slice ad c2.ls.length cp),.box 75 (cT (.mk n l)),.box 60 (aB n)]/\c2=(if d=true then ja p (l.take k) c1 else c1)) ?_ ag ?_ ?_ ?_
  ·exact ⟨_,_,Wk.aK av,ad,cp,c1,rfl,rfl,by cases d <;> simp [ja]⟩
  ·rintro k _ _ ⟨ad,cp,c2,rfl,rfl,_⟩;exact dI
  ·rintro k _ _ ar ⟨ad,cp,c2,rfl,rfl,kB⟩;rw [eR] at ar;obtain ⟨u,hu⟩:∃ u,l[k]?=some u:=⟨l[k],by simp [ar]⟩;have hr:=cI hu;have cB:=iK hu
   cases d with
   | false =>
    refine G ?_;exact ⟨rfl,rfl,_,_,(Wk.cut (n:=4) (fi rfl) rfl).trans (Wk.aK av),ad,cp,c2,rfl,rfl,kB⟩
   | true =>
    rw [ae rfl] at kB;have hlen:=xA p (l.take k) c1;rw [<-kB] at hlen;have hi:=ih u ag c2 ad cp ag;unfold cO at hi;rw [ae rfl,OY p hu,<-kB];refine G ?_;refine dm [0,1] hi ?_;rintro _ _ ⟨rfl,np,nq,rfl⟩;refine dG ?_;refine G ?_;exact ⟨rfl,rfl,_,_,(Wk.cut (n:=4) (fi rfl) rfl).trans (Wk.aK av),np,nq,_,rfl,rfl,rfl⟩
  ·rintro _ _ ⟨ad,cp,c2,rfl,rfl,kB⟩;rw [eR,cy] at kB;rw [<-kB]
   have hlen:c2.ls.length<=8388608:=by
    rw [kB];split
    ·have:=xA p l c1;omega
    ·omega
   clear kB ih;refine be ?_;have hL:=jT c2.ls n.s ag;have Oa:=tV c2.ls;have JX:=iY p (.slice ad c2.ls.length cp) c2 21 n.at_;have YN:=iY p (.slice ad c2.ls.length cp) c2 26 n.at_;have l21:=c2.oQ 21 n.at_;have l26:=c2.oQ 26 n.at_
   cases hv:(n.kind != 13) with
   | true =>
    have e:mC c2 n=c2:=by unfold mC;exact ae (by simpa using hv)
    rw [e];refine G ?_;refine cZ ?_;exact ⟨rfl,ad,cp,rfl⟩
   | false =>
    have CP:¬ n.kind≠13:=by simpa using hv
    unfold cC at JX YN
    cases hb:c2.ls.contains n.s with
    | true =>
     rw [hb] at hL
     have e:mC c2 n=⟨(c2.fail 21 n.at_).ls++[n.s],(c2.fail 21 n.at_).code,(c2.fail 21 n.at_).at_⟩:=by unfold mC;rw [ab CP];exact ae hb
     rw [e];generalize c2.fail 21 n.at_=y at *;unfold cC;refine G ?_;refine aJ (aD 0 6 (.a 6 .nil)) ?_;refine au ?_;refine OA rfl rfl (GL.borrow hL (fun B K β w l hI hF=>iT (A:=[_]) (C:=[_,_]) hI hF rfl rfl) ?_);refine dE ?_;refine bj ?_;refine D [0] JX ?_;refine aJ (aD 0 7 (.a 7 (.a 8 (.q 9 (.q 10 (.a 11 .nil)))))) ?_;refine au ?_;refine eZ ?_;refine au ?_;refine OA rfl rfl (GL.qL 1 (news:=[[.v (sv n.s)]]) rfl rfl rfl bf rfl rfl (by refine ⟨?_,?_⟩;(· show _+1<=_;omega);(· show (_+1) * _<=_;omega)) ?_);intro su sx;refine dE ?_;refine bj ?_;refine cZ ?_;exact ⟨rfl,su,sx,by simp [cO,cC,cQ,l21]⟩
    | false =>
     rw [hb] at hL
     cases h40:((c2.ls.length:Int)==40) with
     | true =>
      have e:mC c2 n=⟨(c2.fail 26 n.at_).ls++[n.s],(c2.fail 26 n.at_).code,(c2.fail 26 n.at_).at_⟩:=by
       unfold mC;rw [ab CP,ab (by rw [hb];decide)];exact ae (by rw [beq_iff_eq] at h40;omega)
      rw [e];generalize c2.fail 26 n.at_=y at *;unfold cC;refine G ?_;refine aJ (aD 0 6 (.a 6 .nil)) ?_;refine au ?_;refine OA rfl rfl (GL.borrow hL (fun B K β w l hI hF=>iT (A:=[_]) (C:=[_,_]) hI hF rfl rfl) ?_);refine dE ?_;refine bj ?_;refine D [0] YN ?_;refine aJ (aD 0 7 (.a 7 (.a 8 (.q 9 (.q 10 (.a 11 .nil)))))) ?_;refine au ?_;refine eZ ?_;refine au ?_;refine OA rfl rfl (GL.qL 1 (news:=[[.v (sv n.s)]]) rfl rfl rfl bf rfl rfl (by refine ⟨?_,?_⟩;(· show _+1<=_;omega);(· show (_+1) * _<=_;omega)) ?_);intro su sx;refine dE ?_;refine bj ?_;refine cZ ?_;exact ⟨rfl,su,sx,by simp [cO,cC,cQ,l26]⟩
     | false =>
      have e:mC c2 n=⟨c2.ls++[n.s],c2.code,c2.at_⟩:=by
       unfold mC;rw [ab CP,ab (by rw [hb];decide)];exact ab (by rw [beq_eq_false_iff_ne] at h40;omega)
      rw [e];unfold cC;refine G ?_;refine aJ (aD 0 6 (.a 6 .nil)) ?_;refine au ?_;refine OA rfl rfl (GL.borrow hL (fun B K β w l hI hF=>iT (A:=[_]) (C:=[_,_]) hI hF rfl rfl) ?_);refine dE ?_;refine bj ?_;refine aJ (aD 0 7 (.a 7 (.a 8 (.q 9 (.q 10 (.a 11 .nil)))))) ?_;refine au ?_;refine eZ ?_;refine au ?_;refine OA rfl rfl (GL.qL 1 (news:=[[.v (sv n.s)]]) rfl rfl rfl bf rfl rfl (by refine ⟨?_,?_⟩;(· show _+1<=_;omega);(· show (_+1) * _<=_;omega)) ?_);intro su sx;refine dE ?_;refine bj ?_;refine cZ ?_;exact ⟨rfl,su,sx,by simp [cO,cC,cQ]⟩
end Go.Xg
namespace Go.Xg
open GV (U)
open Go.RowKit Go.Xw Go.Proofs Tryz
open Go.Xp (Nd T Ar aO aC)
open Go.Sp (Src)
open Go.Im
attribute [local irreducible] GW GL GO YG GC GA ba bc
theorem DF (p:Src) (h:Value) (k e:Int):GF prog 91 [.loc 0 0,.v (ii e),.v (ii 0)] [.box 106 (cC p h ⟨[],k,0⟩)] (.tup []) [.box 106 (cC p h ⟨[],gT k e,0⟩)]:=by
 have:=iY p h ⟨[],k,0⟩ e 0
 rwa [show (SS.fail ⟨[],k,0⟩ e 0)=⟨[],gT k e,0⟩ by unfold SS.fail gT;by_cases hk:k=0 <;> simp [hk]] at this
theorem Hy (p:Src) (h:Value) (k:Int) (jX:p.arrays.length<=1048576) (cB:∀ a∈p.arrays,0<=a.size/\a.size<=2147483648)
  (rest:(p.arrays.all fun a=>!ni a)=true->GF prog 75 [.loc 0 0] [.box 106 (cC p h ⟨[],k,0⟩)] (.tup []) [.box 106 (cC p h ⟨[],rV p k,0⟩)]) :
  GF prog 75 [.loc 0 0] [.box 106 (cC p h ⟨[],k,0⟩)] (.tup []) [.box 106 (cC p h ⟨[],rV p k,0⟩)]:=by
 cases vh:(p.arrays.all fun a=>!ni a) with
 | true=>exact rest vh
 | false =>
 have eL:(p.arrays.map aL).length=p.arrays.length:=by simp
 have hb:=vF cB;have yC:=DF p h k 26
 have Ha:p.arrays.any ni=true:=by
  cases h0:p.arrays.any ni with
  | true=>rfl
  | false =>
   rw [any_eq_false] at h0;rw [List.all_eq_false] at vh;obtain ⟨x,hx,I⟩:=vh;have:=h0 x hx;simp at I;rw [I] at this;exact absurd rfl this
 rw [show rV p k=gT k 26 by unfold rV;exact ae Ha];unfold cC at yC |-;refine ai func75 ntmps75 ?_;refine GW.range (p.arrays.map aL).length (fun k' fr Γ=>fr=[.loc 0 0,U,.v (ii (dY (p.arrays.take k'))),U,U,U,U,U,U,U,U,U,.sl 2 (p.arrays.map aL),.v (ii ((p.arrays.map aL).length:Int)),.v (ii (k':Nat)),U,U,U,U,U,U,U,U,U,U,U,U,U,U,U,U,U,U,U,U,U,U,U,U,U,U,U,U,U,U,U,U,U,U,U,U,U,U,U,U,U,U,U,U,U,U,U,U,U,U,U,U,U,U,U,U,U,U,U,U,U,U,U,U,U,U,U,U,U,U,U,U,U,U,U,U,U,U,U]/\Γ=[.box 106 [strs p.globals,.sl 2 (p.arrays.map aL),.sl 3 (p.fns.map ay),.sl 5 (p.nodes.map aB),.v h,.v (ii k),.v (ii 0)]]/\(p.arrays.take k').all (fun a=>!ni a)=true) ?_ ag ?_ ?_ ?_
 ·exact jW
 ·rintro k' _ _ ⟨rfl,rfl,_⟩;exact dI
 ·rintro k' _ _ ar ⟨rfl,rfl,aY⟩;rw [eL] at ar;obtain ⟨x,hx⟩:∃ x,p.arrays[k']?=some x:=⟨p.arrays[k'],by simp [ar]⟩
  have hr:(p.arrays.map aL)[k']?=some (aL x):=by rw [aV,hx];rfl
  have bB:=mU (f:=ni) hx;have iX:=tu hx;have dQ:=hb k';have oz:=cB x (bm hx);have hd:ni x=(decide (x.size < 1) || decide (8000 < x.size)):=rfl;unfold aL at hr
  cases I:decide (x.size < 1) with
  | true =>
   refine G ?_;refine D [0] yC ?_;exact gL
  | false =>
   cases F:decide (8000 < x.size) with
   | true =>
    refine G ?_;refine D [0] yC ?_;exact gL
   | false =>
    rw [iX];generalize dY (p.arrays.take k')=c at *;refine G ?_;exact ⟨rfl,rfl,_,_,(Wk.cut (n:=1) (aH _) rfl).trans (Wk.aK av),rfl,rfl,by rw [bB,aY,hd,I,F];rfl⟩
 ·rintro _ _ ⟨rfl,rfl,aY⟩;rw [eL,cy] at aY;rw [aY] at vh;cases vh
end Go.Xg
namespace Go.Im
open Go.Xp Go.Sp
theorem TT (k e:Int) (he:e≠0):gT (gT k e) e=gT k e:=by unfold gT;by_cases h:k=0 <;> simp [h,he]
end Go.Im
namespace Go.Xg
open GV (U)
open Go.RowKit Go.Xw Go.Proofs Tryz
open Go.Xp (Nd T Ar aO aC)
open Go.Sp (Src)
open Go.Im
attribute [local irreducible] GW GL GO YG GC GA ba bc
theorem FN (p:Src) (h:Value) (k:Int) (jX:p.arrays.length<=1048576) (fL:p.fns.length<=1048576) (cB:∀ a∈p.arrays,0<=a.size/\a.size<=2147483648) (vh:(p.arrays.all fun a=>!ni a)=true) :
  GF prog 75 [.loc 0 0] [.box 106 (cC p h ⟨[],k,0⟩)] (.tup []) [.box 106 (cC p h ⟨[],rV p k,0⟩)]:=by
 have eL:(p.arrays.map aL).length=p.arrays.length:=by simp
 have lE:(p.fns.map ay).length=p.fns.length:=by simp
 have lF:(p.globals.map fun s=>[GV.v (sv s)]).length=p.globals.length:=by simp
 have hb:=vF cB
 have Ha:p.arrays.any ni=false:=by
  rw [any_eq_false];rw [fE] at vh;intro x hx;simpa using vh x hx
 have yC:=DF p h;unfold cC at yC |-;refine ai func75 ntmps75 ?_;refine GW.range (p.arrays.map aL).length (fun k' fr Γ=>fr=[.loc 0 0,U,.v (ii (dY (p.arrays.take k'))),U,U,U,U,U,U,U,U,U,.sl 2 (p.arrays.map aL),.v (ii ((p.arrays.map aL).length:Int)),.v (ii (k':Nat)),U,U,U,U,U,U,U,U,U,U,U,U,U,U,U,U,U,U,U,U,U,U,U,U,U,U,U,U,U,U,U,U,U,U,U,U,U,U,U,U,U,U,U,U,U,U,U,U,U,U,U,U,U,U,U,U,U,U,U,U,U,U,U,U,U,U,U,U,U,U,U,U,U,U,U,U,U,U,U]/\Γ=[.box 106 [strs p.globals,.sl 2 (p.arrays.map aL),.sl 3 (p.fns.map ay),.sl 5 (p.nodes.map aB),.v h,.v (ii k),.v (ii 0)]]) ?_ ag ?_ ?_ ?_
 ·exact jb
 ·rintro k' _ _ ⟨rfl,rfl⟩;exact dI
 ·rintro k' _ _ ar ⟨rfl,rfl⟩;rw [eL] at ar;obtain ⟨x,hx⟩:∃ x,p.arrays[k']?=some x:=⟨p.arrays[k'],by simp [ar]⟩
  have hr:(p.arrays.map aL)[k']?=some (aL x):=by rw [aV,hx];rfl
  have iX:=tu hx;have dQ:=hb k';have oz:=cB x (bm hx)
  have hd:ni x=false:=by
   rw [any_eq_false] at Ha;have:=Ha x (bm hx);simpa using this
  unfold ni at hd;rw [Bool.or_eq_false_iff] at hd;obtain ⟨I,F⟩:=hd;have F:decide (8000 < x.size)=false:=F;unfold aL at hr;rw [iX];generalize dY (p.arrays.take k')=c at *;refine G ?_;exact ⟨rfl,rfl,_,_,(Wk.cut (n:=1) (aH _) rfl).trans (Wk.aK av),rfl,rfl⟩
 ·rintro _ _ ⟨rfl,rfl⟩;rw [eL,cy];refine be ?_;refine GW.seq ?_;have e1:decide (p.fns.length > 40)=decide ((40:Int) < ((p.fns.map ay).length:Int)):=decide_eq_decide.2 (by rw [lE];omega);have e2:decide (p.globals.length > 29)=decide ((29:Int) < ((p.globals.map fun s=>[GV.v (sv s)]).length:Int)):=decide_eq_decide.2 ag
  have ZR:uf p=((decide ((40:Int) < ((p.fns.map ay).length:Int)) || decide ((29:Int) < ((p.globals.map fun s=>[GV.v (sv s)]).length:Int))) || decide ((8000:Int) < dY p.arrays)):=by unfold uf;rw [e1,e2]
  refine GW.join (fun fr Γ=>fr=[.loc 0 0,U,U,U,U,U,U,U,U,U,U,U,U,U,U,U,U,U,U,U,U,U,U,U,U,U,U,U,U,U,U,U,U,U,U,U,U,U,U,U,U,U,U,U,U,U,U,U,U,U,U,U,U,U,U,U,U,U,U,U,U,U,U,U,U,U,U,U,U,U,U,U,U,U,U,U,U,U,U,U,U,U,U,U,U,U,U,U,U,U,U,U,U,U]/\Γ=[.box 106 [strs p.globals,.sl 2 (p.arrays.map aL),.sl 3 (p.fns.map ay),.sl 5 (p.nodes.map aB),.v h,.v (ii (if uf p=true then gT k 26 else k)),.v (ii 0)]]) ?_ ?_
  ·rw [ZR];have Ly:=yC k 26;generalize dY p.arrays=c at *
   cases I:decide ((40:Int) < ((p.fns.map ay).length:Int))
   all_goals cases F:decide ((29:Int) < ((p.globals.map fun s=>[GV.v (sv s)]).length:Int))
   all_goals cases h3:decide ((8000:Int) < c)
   all_goals
    refine G ?_
    first
     | exact jb
     | (refine lu [0] Ly ?_;refine G ?_;exact ⟨_,_,Wk.aK av,rfl,rfl⟩)
  ·rintro _ _ ⟨rfl,rfl⟩;generalize vk:(if uf p=true then gT k 26 else k)=k1
   have XX:∀ j:Nat,∀ x:Go.Sp.Fn,p.fns[j]?=some x->(p.fns.take (j+1)).any (fun f=>decide (f.params.length > 40))=((p.fns.take j).any (fun f=>decide (f.params.length > 40)) || decide (x.params.length > 40)):=fun j x hx=>by
    rw [cq,hx,List.any_append];simp
   refine G ?_;refine GW.range (p.fns.map ay).length (fun j fr Γ=>∃ kk,fr=[.loc 0 0,U,U,U,U,U,U,U,U,U,U,U,U,U,U,U,U,U,U,U,U,U,U,U,U,U,U,U,U,U,U,U,U,U,U,U,U,U,U,U,U,U,U,U,U,U,U,U,U,U,U,U,U,U,U,U,U,U,U,.sl 3 (p.fns.map ay),.v (ii ((p.fns.map ay).length:Int)),.v (ii (j:Nat)),U,U,U,U,U,U,U,U,U,U,U,U,U,U,U,U,U,U,U,U,U,U,U,U,U,U,U,U,U,U,U,U]/\Γ=[.box 106 [strs p.globals,.sl 2 (p.arrays.map aL),.sl 3 (p.fns.map ay),.sl 5 (p.nodes.map aB),.v h,.v (ii kk),.v (ii 0)]]/\kk=(if (p.fns.take j).any (fun f=>decide (f.params.length > 40))=true then gT k1 26 else k1)) ?_ ag ?_ ?_ ?_
   ·exact ⟨_,_,Wk.aK av,k1,rfl,rfl,by simp⟩
   ·rintro j _ _ ⟨kk,rfl,rfl,_⟩;exact dI
   ·rintro j _ _ ar ⟨kk,rfl,rfl,mr⟩;rw [lE] at ar;obtain ⟨x,hx⟩:∃ x,p.fns[j]?=some x:=⟨p.fns[j],by simp [ar]⟩
    have hr:(p.fns.map ay)[j]?=some (ay x):=by rw [aV,hx];rfl
    have cX:(x.params.map fun s=>[GV.v (sv s)]).length=x.params.length:=by simp
    have jZ:=XX j x hx;have hd:decide (x.params.length > 40)=decide ((40:Int) < ((x.params.map fun s=>[GV.v (sv s)]).length:Int)):=decide_eq_decide.2 ag;have Ly:=yC kk 26;rw [jZ,hd];unfold ay at hr
    cases I:decide ((40:Int) < ((x.params.map fun s=>[GV.v (sv s)]).length:Int)) with
    | true =>
     have e:gT kk 26=gT k1 26:=by rw [mr];split;(· exact TT _ _ aM);rfl
     rw [e] at Ly;refine G ?_;refine D [0] Ly ?_;exact ⟨rfl,rfl,_,_,(Wk.cut (n:=1) (aH _) rfl).trans (Wk.aK av),_,rfl,rfl,by simp⟩
    | false =>
     refine G ?_;exact ⟨rfl,rfl,_,_,(Wk.cut (n:=1) (aH _) rfl).trans (Wk.aK av),kk,rfl,rfl,by rw [mr,Bool.or_false]⟩
   ·rintro _ _ ⟨kk,rfl,rfl,mr⟩;rw [lE,cy] at mr
    have hs:rV p k=(if kx p=true then gT kk 25 else kk):=by
     unfold rV;rw [ab (by rw [Ha];decide),vk,<-mr]
    rw [hs];refine be ?_;have VK:=yC kk 25;have hM:=tP p fA ag;unfold cr at hM;clear hs mr vk
    cases hx:p.fns.findIdx? (fun f:Go.Sp.Fn=>f.name==fA) with
    | none =>
     rw [hx] at hM
     have hd:decide ((-1:Int) < 0)=true:=by decide
     simp only at hM;rw [show (if kx p=true then gT kk 25 else kk)=gT kk 25 from ae (by unfold kx;rw [hx])];refine G ?_;refine D [] hM ?_;refine D [0] VK ?_;exact gL
    | some i =>
     rw [hx] at hM;have hi:i < p.fns.length:=(List.findIdx?_eq_some_iff_getElem.1 hx).1;obtain ⟨f,hf⟩:∃ f,p.fns[i]?=some f:=⟨p.fns[i],by simp [hi]⟩
     have hr:(p.fns.map ay)[i]?=some (ay f):=by rw [aV,hf];rfl
     have cX:(f.params.map fun s=>[GV.v (sv s)]).length=f.params.length:=by simp
     have hd:decide (((i:Nat):Int) < 0)=false:=by simp
     have lI:decide (mw p i > 0)=decide ((0:Int) < ((f.params.map fun s=>[GV.v (sv s)]).length:Int)):=by
      unfold mw;rw [hf];exact decide_eq_decide.2 (by simp only;omega)
     simp only at hM
     have rA:kx p=decide (mw p i > 0):=by unfold kx;rw [hx]
     rw [lI] at rA;unfold ay at hr
     cases I:decide ((0:Int) < ((f.params.map fun s=>[GV.v (sv s)]).length:Int)) with
     | true =>
      rw [show (if kx p=true then gT kk 25 else kk)=gT kk 25 from ae (by rw [rA,I])];refine G ?_;refine D [] hM ?_;refine D [0] VK ?_;exact gL
     | false =>
      rw [show (if kx p=true then gT kk 25 else kk)=kk from ab (by rw [rA,I];decide)];refine G ?_;refine D [] hM ?_;exact gL
end Go.Xg
namespace Go.Im
open Go.Xp Go.Sp
theorem Qo (p:Src) (l:List T) (c:SS):oe p [] l c=c:=by unfold oe;rfl
end Go.Im
namespace Go.Xg
open GV (U)
open Go.RowKit Go.Xw Go.Proofs Tryz
open Go.Xp (Nd T Ar aO aC)
open Go.Sp (Src)
open Go.Im
attribute [local irreducible] GW GL GO YG GC GA ba bc
theorem Mz (p:Src) (hF:GF prog 73 [.agg (ao p)] [] (.v (.bool false)) []):GF prog 55 [.agg (ao p)] [] (.tup [.v (ii 20),.v (ii 0)]) []:=by
 refine ai func55 ntmps55 ?_;refine D [] hF ?_;exact nj
theorem K3 (p:Src) (l:List T) (c1 c2:SS) (lE:p.fns.length=l.length) (fL:p.fns.length<=1048576) (jX:p.arrays.length<=1099511627776) (lF:p.globals.length<=1099511627776)
  (xk:∀ f∈p.fns,f.params.length<=1048576) (cB:∀ t∈l,aO t<=1048576)
  (hF:GF prog 73 [.agg (ao p)] [] (.v (.bool true)) [])
  (hN:GF prog 74 [.loc 0 0] [.box 106 (cC p (.slice none 0 0) ⟨[],0,0⟩)] (.tup []) [.box 106 (cC p (.slice none 0 0) c1)])
  (hS:GF prog 75 [.loc 0 0] [.box 106 (cC p (.slice none 0 0) c1)] (.tup []) [.box 106 (cC p (.slice none 0 0) c2)])
  (qU:∀ (i:Nat) (f:Go.Sp.Fn) (t:T),p.fns[i]?=some f->l[i]?=some t->GF prog 45 [.agg (ao p),.v (ii f.body)] [] (.agg (cT t)) []) :
  GF prog 55 [.agg (ao p)] [] (.tup [.v (ii (oe p p.fns l c2).code),.v (ii (oe p p.fns l c2).at_)]) []:=by
 have wm:(p.fns.map ay).length=p.fns.length:=by simp
 unfold cC at hN hS;refine ai func55 ntmps55 ?_;refine D [] hF ?_;refine D [1] hN ?_;refine D [1] hS ?_;refine GW.range (p.fns.map ay).length (fun k fr Γ=>∃ h c,fr=[U,.loc 0 0,U,U,.loc 1 0,U,U,U,U,U,U,U,U,U,U,U,U,U,.sl 3 (p.fns.map ay),.v (ii ((p.fns.map ay).length:Int)),.v (ii (k:Nat)),U,U,U,U,U,U,U,U,U,U,U,U,U,U,U,U,U,U,U,U,U,U,U,U,U,U]/\Γ=[.box 34 (ao p),.box 106 (cC p h c)]/\oe p p.fns l c2=oe p (p.fns.drop k) (l.drop k) c) ?_ ag ?_ ?_ ?_
 ·exact ⟨_,_,Wk.aK av,_,c2,rfl,rfl,rfl⟩
 ·rintro k _ _ ⟨h,c,rfl,rfl,_⟩;exact dI
 ·rintro k _ _ ar ⟨h,c,rfl,rfl,he⟩;rw [wm] at ar;obtain ⟨f,hf⟩:∃ f,p.fns[k]?=some f:=⟨p.fns[k],by simp [ar]⟩;obtain ⟨t,ht⟩:∃ t,l[k]?=some t:=⟨l[k]'ag,eF _⟩
  have hr:(p.fns.map ay)[k]?=some (ay f):=by rw [aV,hf];rfl
  have N1:p.fns.drop k=f::p.fns.drop (k+1):=by rw [nl ar];rw [eF ar] at hf;rw [Ae hf]
  have fw:l.drop k=t::l.drop (k+1):=by rw [nl ag];rw [eF ag] at ht;rw [Ae ht]
  have hp:=xk f (bm hf);have hz:=cB t (bm ht);have Wc:=qU k f t hf ht;have hP:=I4 p h c f hp;rw [N1,fw,oe] at he
  cases hc:(c.code==0) with
  | false =>
   rw [ab (by simpa using hc)] at he;unfold cC ay at *;refine G ?_;exact ⟨rfl,rfl,_,_,(Wk.cut (n:=2) (aX _) rfl).trans (Wk.aK av),h,c,rfl,rfl,he⟩
  | true =>
   rw [ae (by simpa using hc)] at he
   have Ay:=fun ad cp=>OJ p jX ag lF _ t (aH _) (rf f c) ad cp (by show f.params.length+_<=_;omega)
   rw [he];generalize nZ p t (rf f c)=c3 at *;unfold cO at Ay;unfold ay at hr hP;rw [show cC p h c=[strs p.globals,.sl 2 (p.arrays.map aL),.sl 3 (p.fns.map ay),.sl 5 (p.nodes.map aB),.v h,.v (ii c.code),.v (ii c.at_)] from rfl] at *;refine G ?_;refine dm [1] hP ?_;rintro _ _ ⟨rfl,ad,cp,rfl⟩;refine dG ?_;refine G ?_;refine D [] Wc ?_;refine dm [1,3] (Ay ad cp) ?_;rintro _ _ ⟨rfl,np,nq,rfl⟩;refine dG ?_;refine G ?_;exact ⟨rfl,rfl,_,_,(Wk.cut (n:=2) (aX _) rfl).trans (Wk.aK av),_,c3,rfl,rfl,rfl⟩
 ·rintro _ _ ⟨h,c,rfl,rfl,he⟩;rw [wm,List.drop_length,Qo] at he;rw [he];unfold cC;refine be ?_;refine G ?_;refine aJ (aD 0 10 .nil) ?_;refine au ?_;exact r6
end Go.Xg
namespace Go.Xg
open Go.RowKit Go.Xw Go.Proofs
open Go.Xp (Nd T Ar aO aC bZ)
open Go.Sp (Src)
open Go.Im
attribute [local irreducible] GW GL GO YG GC GA ba bc
end Go.Xg
namespace Go.Xg
open Go.RowKit Go.Xw Go.Proofs
section
variable {P:Program} {m:Nat} {ops:Array Oper} {Q:eu} {rest:List Oper} {fr:List GV} {Γ:List Ob}
theorem PC {o:Oper} {a:Act} {next next':Act->World->Prop} {Q Q':Exit->Act->World->Prop} (hn:∀ a w,next a w->next' a w) (hq:∀ e a w,Q e a w->Q' e a w):∀ r,o.upon P a next Q r->o.upon P a next' Q' r:=by
 have hl:LetsOut Q->LetsOut Q':=fun ⟨a,w,h⟩=>⟨a,w,hq _ _ _ h⟩
 intro r h;unfold Oper.upon at h |-;split at h
 ·exact hn _ _ h
 ·exact hn _ _ h
 ·exact hn _ _ h
 ·refine Calls.mono h fun e w' he=>?_
  cases e with
  | returned v=>exact hn _ _ he
  | panicked ch=>exact hq _ _ _ he
  | outgrown=>exact hl he
 ·exact Rows.mono h fun v w' hv=>hn _ _ hv
 ·exact hq _ _ _ h
 ·exact h
theorem AV {Q Q':Exit->Act->World->Prop} (hq:∀ e a w,Q e a w->Q' e a w):∀ (l:List Oper) (a:Act) (w:World),wpList P ops Q l a w->wpList P ops Q' l a w
 | [],a,w,h=>hq _ _ _ h
 | o::l,a,w,h=>by
  have ih:=AV hq l;unfold wpList at h |-;split at h
  ·rename_i hw;rw [ae hw]
   rcases h with h | ⟨I,F⟩
   ·exact .inl (PC ih hq _ h)
   ·exact .inr ⟨I,by obtain ⟨a,w,h⟩:=F;exact ⟨a,w,hq _ _ _ h⟩⟩
  ·rename_i hw;rw [ab hw];exact ih _ _ h
theorem GL.mono {Q':eu} (h:GL P m ops Q rest fr Γ) (hq:∀ e fr Γ,Q e fr Γ->Q' e fr Γ):GL P m ops Q' rest fr Γ:=fun B K β w l hm hI hF =>
 AV (fun e a w ⟨l,ha,K,β,fr,Γ,hI,hF,q⟩=>⟨l,ha,K,β,fr,Γ,hI,hF,hq _ _ _ q⟩) _ _ _ (h B K β w l hm hI hF)
theorem GL.X4 {z y:Code} (K:List GV->List Ob->Prop) (I:GL P m ops (ba (GW P m z (ba (Ak m K) Q)) Q) rest fr Γ) (F:∀ fr Γ,K fr Γ->GW P m y Q fr Γ):GL P m ops (ba (GW P m z (ba (GW P m y Q) Q)) (ba (GW P m y Q) Q)) rest fr Γ:=by
 refine I.mono fun e fr Γ hq=>?_
 cases e with
 | normal=>exact GW.join K hq F
 | _=>exact hq
theorem GL.vK {t i n E k:Nat} {rows:List (List GV)} (ht:dj fr t=.vec i n) (kC:kJ fr t=true) (bJ:Γ[i]?=some (.vec E k 0 rows)) (hn:rows.length=n)
  (h:∀ a c,GL P m ops Q rest (bH fr t (.v (.slice a n c))) (oset Γ i (.vech E k rows (.slice a n c)))):GL P m ops Q rest fr Γ:=fun B K β w l hm hI hF=>by
 subst hn;obtain ⟨a,c,hb,bA⟩:=hI.vK bJ
 have hv:nth l t=.slice a rows.length c:=by
  have:=hF.nth t;rw [ht] at this;generalize nth l t=x at this
  cases this with
  | vec i n a' c' h =>
   obtain ⟨h0,m0,e1,_,e3⟩:=h;rw [hb] at e1;cases e1;exact e3 rfl
 have:=hF.fS t (Rel.v (K:=K) (β:=β) (.slice a rows.length c));rw [<-hv,B9 (oA hF kC),hv] at this;exact h a c B K β w l hm bA this
end
end Go.Xg
namespace Go.Im
open Go.Xp Go.Sp
def Ke (x y:Int):Bool:=decide (x<=y)
structure Cpt (d:Array Int) (m:Nat):Prop where
 rise:iI (Go.Lib.compactUpTo d m)
 le:∀ x∈Go.Lib.compactUpTo d m,0 < m/\x<=d[m - 1]!
 mem:∀ x,x∈Go.Lib.compactUpTo d m↔∃ i,i < m/\d[i]! = x
 len:(Go.Lib.compactUpTo d m).length<=m
theorem TK {d:Array Int} {n:Nat} (hs:∀ i,i+1 < n->d[i]! <= d[i+1]!):∀ m,m<=n->Cpt d m:=by
 intro m
 induction m with
 | zero=>intro _;exact ⟨List.Pairwise.nil,fun x hx=>(by cases hx),fun x=>(by simp [Go.Lib.compactUpTo]),aH _⟩
 | succ m ih =>
  intro hm;obtain ⟨I,F,h3,h4⟩:=ih (by omega);have e:=Go.Lib.compactUpTo_succ d m
  by_cases hk:Go.Lib.keeps d m=true
  ·rw [ae hk] at e
   have ar:∀ x∈Go.Lib.compactUpTo d m,x < d[m]! := fun x hx=>by
    obtain ⟨h5,h6⟩:=F x hx;have h7:=hs (m - 1) (by omega);rw [Nat.sub_add_cancel h5] at h7
    have:d[m]! ≠ d[m - 1]! := by
     unfold Go.Lib.keeps at hk;simp only [decide_eq_true_eq] at hk
     rcases hk with h | h
     ·omega
     ·exact h
    omega
   refine ⟨?_,fun x hx=>?_,fun x=>?_,?_⟩
   ·rw [e];unfold iI at *;rw [List.pairwise_append];exact ⟨I,by simp,fun a ha b hb=>by rw [mem_singleton] at hb;rw [hb];exact ar a ha⟩
   ·rw [e,List.mem_append,mem_singleton] at hx;rw [Nat.add_sub_cancel]
    rcases hx with h | h
    ·have:=ar x h;omega
    ·omega
   ·rw [e,List.mem_append,mem_singleton,h3];constructor
    ·rintro (⟨i,hi,hx⟩ | hx)
     ·exact ⟨i,by omega,hx⟩
     ·exact ⟨m,by omega,hx.symm⟩
    ·rintro ⟨i,hi,hx⟩
     by_cases him:i=m
     ·subst him;exact .inr hx.symm
     ·exact .inl ⟨i,by omega,hx⟩
   ·rw [e,aZ];simp;omega
  ·rw [ab hk,iy] at e
   have hm0:0 < m:=by
    rcases Nat.eq_zero_or_pos m with h | h
    ·subst h;exact absurd (by simp [Go.Lib.keeps]) hk
    ·exact h
   have heq:d[m]! = d[m - 1]! := by
    unfold Go.Lib.keeps at hk;simp only [decide_eq_true_eq,not_or] at hk;exact Decidable.not_not.1 hk.2
   refine ⟨by rw [e];exact I,fun x hx=>?_,fun x=>?_,by rw [e];omega⟩
   ·rw [e] at hx;rw [Nat.add_sub_cancel,heq];exact ⟨by omega,(F x hx).2⟩
   ·rw [e,h3];constructor
    ·rintro ⟨i,hi,hx⟩;exact ⟨i,by omega,hx⟩
    ·rintro ⟨i,hi,hx⟩
     by_cases him:i=m
     ·subst him;exact ⟨i - 1,by omega,by rw [<-heq];exact hx⟩
     ·exact ⟨i,by omega,hx⟩
def gx (l:List Int):List Int:=l.mergeSort Ke
theorem FD (l:List Int):(gx l).Perm l:=List.mergeSort_perm l Ke
theorem nh (l:List Int):(gx l).length=l.length:=(FD l).length_eq
theorem ql {l:List Int} {x:Int}:x∈gx l↔x∈l:=(FD l).mem_iff
theorem Jg (l:List Int):(gx l).Pairwise (·<=·):=by
 have:=List.pairwise_mergeSort (le:=Ke) (fun a b c I F=>by unfold Ke at *;simp at *;omega) (fun a b=>by unfold Ke;simp;omega) l
 exact this.imp fun {a b} h=>by unfold Ke at h;simpa using h
theorem Vi (l:List Int):Go.Lib.compact (gx l)=pO l/\(Go.Lib.compact (gx l)).length<=(gx l).length:=by
 have hs:=Jg l
 have hg:∀ i,i < (gx l).length->∃ x,(gx l)[i]?=some x/\(gx l).toArray[i]! = x:=fun i hi=>⟨(gx l)[i],eF _,by simp [getElem!_pos,hi]⟩
 have h:=TK (d:=(gx l).toArray) (n:=(gx l).length) (fun i hi=>by
  rw [List.pairwise_iff_getElem] at hs;have:=hs i (i+1) (by omega) hi (by omega)
  simpa [getElem!_pos,hi,show i < (gx l).length by omega] using this) _ (aH _)
 refine ⟨C7 h.rise (sX l) fun x=>?_,h.len⟩;unfold Go.Lib.compact;rw [h.mem,oV];constructor
 ·rintro ⟨i,hi,hx⟩;obtain ⟨y,hy,he⟩:=hg i hi;rw [he] at hx;subst hx;exact ql.1 (bm hy)
 ·intro hx;obtain ⟨i,hi⟩:=List.getElem?_of_mem (ql.2 hx);have ar:=(bh hi).1;obtain ⟨y,hy,he⟩:=hg i ar;rw [hi] at hy;cases hy;exact ⟨i,ar,he⟩
end Go.Im
