/- Part 6 of proofs that are told in their last texts. -/
import Derived.Test.YtbfmholmeiegoaaGreatDoorY5
import Derived.Test.YtbfmholmeiegoaaGreatDoorY2
open List (all_append all_cons all_eq_false all_nil length_cons length_nil)
set_option linter.unusedVariables false
set_option linter.unusedSimpArgs false
set_option maxRecDepth 100000
namespace Go.Xg
open Go.RowKit Go.Xw
def Ob.ko:Ob->Bool
 | .vech _ _ _ _=>true
 | _=>false
def oe (β:Bt) (aS:List Nat):Bt:=fun j=>match aS[j]? with
 | some i=>β i
 | none=>.no
section
variable {B:Bs} {K:Fz} {β:Bt} {Γ:List Ob} {w:World}
theorem bq.qm {K:Fz} {β bT:Bt} {vs:List Value} {gs:List GV} (h:bq K β vs gs) (hp:∀ g∈gs,g.pc=true):bq K bT vs gs:=⟨h.1,fun i v g F I=>(h.2 i v g F I).pc (hp g (bA I))⟩
theorem iw.flat {k:Nat} {rows:List (List GV)} (h:iw k rows):∀ g∈rows.flatten,g.pc=true:=fun g hg=>by
 obtain ⟨r,F,I⟩:=List.mem_flatten.1 hg;exact (h r F).2 g I
theorem Inv.pick (h:Inv B K β Γ w) (hm:B.m=0) {aS:List Nat} {Δ:List Ob} (hl:Δ.length=aS.length) (hn:aS.Nodup)
  (hx:∀ (j:Nat) x,Δ[j]?=some x->x.ko=true/\∀ i,aS[j]?=some i->Γ[i]?=some x):Inv B K (oe β aS) Δ w:=by
 have hb:∀ i b,(oe β aS i).blk=some b->∃ q,aS[i]?=some q/\(β q).blk=some b:=fun i b hi=>by
  unfold oe at hi
  cases hs:aS[i]? with
  | none=>rw [hs] at hi;cases hi
  | some q=>rw [hs] at hi;exact ⟨q,rfl,hi⟩
 refine ⟨h.ext,h.kle,fun i=>by rw [h.loc i G];trivial,h.loc,h.fz,fun i x hi=>?_,fun i hi=>?_,fun i j b hi hj=>?_,fun i b hi=>?_,h.kn,h.tab.step (S:=jm) (Ext.refl w) (fun _ h=>h.elim) (dh.refl K) (fun i b2 I=>?_)⟩
 ·obtain ⟨F,I⟩:=hx i x hi;have ak:=(bo hi).1;have hs:aS[i]?=some (aS[i]'G):=dO _
  cases x with
  | vech E k rows v =>
   obtain ⟨xs,e1,e2,e3,e4,e5⟩:=h.ob _ _ (I _ hs);refine ⟨xs,?_,e2,e3.qm e4.flat,e4,e5⟩;show oe β aS i=_;unfold oe;rw [hs];exact e1
  | _=>cases F
 ·unfold oe;rw [List.getElem?_eq_none G]
 ·obtain ⟨q,F,I⟩:=hb i b hi;obtain ⟨r,h3,h4⟩:=hb j b hj;have:=h.dis q r b I h4;subst this;obtain ⟨a1,a2⟩:=bo F;obtain ⟨b1,b2⟩:=bo h3;exact (List.getElem_inj hn).1 (a2.trans b2.symm)
 ·obtain ⟨q,F,I⟩:=hb i b hi;exact h.own q b I
 ·obtain ⟨q,h3,h4⟩:=hb i b2 I;exact .inl ⟨q,h4⟩
theorem Inv.view {i E k:Nat} {rows:List (List GV)} {x:Value} (h:Inv B K β Γ w) (hi:Γ[i]?=some (.vech E k rows x)):∃ K1,dh K K1/\lK K1 w/\jZ K1 (fun _=>.no) w/\Rel K1 (fun _=>.no) x (.sl k rows):=by
 obtain ⟨K',hK,hr,bE⟩:=h.uj hi;exact ⟨K',hK,bE.fz,⟨bE.tab.le,bE.tab.pow,bE.tab.spc,fun i b h=>by cases h⟩,hr.pc rfl⟩
theorem Inv.abN (h:Inv B K β Γ w):jZ K (fun _=>.no) w:=⟨h.tab.le,h.tab.pow,h.tab.spc,fun i b h=>by cases h⟩
theorem Inv.new (h:lK K w) (ht:jZ K (fun _=>.no) w):Inv ⟨w,jm,K,fun _=>.no,0⟩ K (fun _=>.no) [] w :=
 ⟨Ext.refl w,dh.refl _,dX.refl _,fun _ _=>rfl,h,fun i x h=>by simp at h,fun _ _=>rfl,fun i j b h=>(by cases h),fun i b h=>(by cases h),fun b o g h=>.inl h,ht⟩
theorem Inv.ML {i idx o j E k T k':Nat} {rows ks:List (List GV)} {x h:Value} {r:List GV} (hI:Inv B K β Γ w) (hi:Γ[i]?=some (.vech T k rows h)) (hr:rows[idx]?=some r) (ho:r[o]?=some (.v x)) (ct:i≠j) (hj:Γ[j]?=some (.vech E k' ks x)) :
  ∃ K',dh K K'/\Inv B K' β (oset (oset Γ j (.vec E k' ks.length ks)) i (.vech T k (dp rows idx o (.sl k' ks)) h)) w:=by
 obtain ⟨K',hK,fX,bE⟩:=hI.uj hj;obtain ⟨xs,F,I,h3,h4,h5⟩:=bE.ob i (.vech T k rows h) (by rw [aZ,dx,L (fun e=>ct e.symm)];exact hi);have ak:=(bo hr).1
 have OW:o < k:=by rw [<-(h4 r (bA hr)).1];exact (bo ho).1
 exact ⟨K',hK,bE.swap ⟨xs,by rw [iJ];exact F,by rw [iJ];exact I,by rw [vR OW h4 ak];exact bq.bp fX h3 (vc h4 hr ho),AA rfl h4,h5⟩⟩
theorem xp {rows:List (List GV)} {i o:Nat} {g:GV} {r:List GV} (hr:rows[i]?=some r):∀ q,(dp rows i o g)[q]?=if q=i then some (bp r o g) else rows[q]?:=by
 induction rows generalizing i with
 | nil=>simp at hr
 | cons x rs ih =>
  intro q
  cases i with
  | zero =>
   cases hr
   cases q with
   | zero=>simp [dp]
   | succ q=>simp [dp]
  | succ i =>
   cases q with
   | zero=>simp [dp]
   | succ q =>
    have:=ih (by simpa using hr) q;simp only [dp,List.getElem?_cons_succ,this]
    by_cases h:q=i
    ·simp [h]
    ·simp [h]
theorem Inv.Ik {T k o E k' jf N:Nat} {h:Value} {raw fin:Nat->List GV} {ks:Nat->List (List GV)} {hd:Nat->Value} {jp:Nat->Nat} (hI:Inv B K β Γ w) {Gg:List (List GV)} (hjf:Γ[jf]?=some (.vech T k Gg h)) (h0:Gg.length=N/\∀ i,i < N->Gg[i]?=some (raw i))
  (abn:∀ i,i < N->(raw i)[o]?=some (.v (hd i))/\bp (raw i) o (.sl k' (ks i))=fin i) (mZ:∀ i,i < N->Γ[jp i]?=some (.vech E k' (ks i) (hd i))) (ct:∀ i,i < N->jp i≠jf) (Hh:∀ i i',i < N->i' < N->jp i=jp i'->i=i') :
  ∃ K' aR rows,dh K K'/\Inv B K' β aR w/\aR[jf]?=some (.vech T k rows h)/\rows.length=N/\(∀ i,i < N->rows[i]?=some (fin i))/\∀ q,q≠jf->(∀ i,i < N->q≠jp i)->aR[q]?=Γ[q]?:=by
 have key:∀ n,n<=N->∃ K' aR rows,dh K K'/\Inv B K' β aR w/\aR[jf]?=some (.vech T k rows h)/\rows.length=N/\(∀ i,i < n->rows[i]?=some (fin i))/\(∀ i,n<=i->i < N->rows[i]?=some (raw i))/\(∀ i,n<=i->i < N->aR[jp i]?=some (.vech E k' (ks i) (hd i)))/\∀ q,q≠jf->(∀ i,i < N->q≠jp i)->aR[q]?=Γ[q]?:=by
  intro n
  induction n with
  | zero=>intro _;exact ⟨K,Γ,Gg,dh.refl K,hI,hjf,h0.1,fun i h=>by omega,fun i _ h=>h0.2 i h,fun i _ h=>mZ i h,fun _ _ _=>rfl⟩
  | succ n ih =>
   intro hn;obtain ⟨K',aR,rows,a1,a2,a3,a4,a5,a6,a7,a8⟩:=ih G;have hr:=a6 n (aE _) G;obtain ⟨c1,c2⟩:=abn n G;obtain ⟨K2,b1,b2⟩:=a2.ML a3 hr c1 (fun e=>ct n G e.symm) (a7 n (aE _) G);have ak:=(bo a3).1;refine ⟨K2,_,dp rows n o (.sl k' (ks n)),a1.trans b1,b2,?_,by rw [iJ];exact a4,fun i hi=>?_,fun i hi OS=>?_,fun i hi OS=>?_,fun q hq hqj=>?_⟩
   ·rw [aZ,aZ,dx];simp [ak]
   ·rw [xp hr,c2]
    by_cases e:i=n
    ·rw [ab e,e]
    ·rw [L e];exact a5 i G
   ·rw [xp hr,L G];exact a6 i G OS
   ·rw [aZ,aZ,dx,L (fun e=>ct i OS e.symm),dx,L (fun e=>by have:=Hh n i G OS e;omega)];exact a7 i G OS
   ·rw [aZ,aZ,dx,L (fun e=>hq e.symm),dx,L (fun e=>hqj n G e.symm)];exact a8 q hq hqj
 obtain ⟨K',aR,rows,a1,a2,a3,a4,a5,_,_,a8⟩:=key N (aE _);exact ⟨K',aR,rows,a1,a2,a3,a4,a5,a8⟩
end
section
variable {P:Program} {fn:Func} {R:GV->List Ob->Prop} {fr:List GV} {Γ:List Ob} {e:Exit}
theorem Zg {t:Tmp} {x:Value} (aS:List Nat) (Δ:List Ob) (hr:fn.results=#[.tmp t]) (he:e=.normal\/e=.ret) (hg:cz fr t=.v x) (hl:Δ.length=aS.length) (hn:aS.Nodup)
  (hx:∀ (j:Nat) x,Δ[j]?=some x->x.ko=true/\∀ i,aS[j]?=some i->Γ[i]?=some x) (h:R (.v x) Δ):rl P fn 0 R e fr Γ :=
 ⟨he,fun B K β w l hB hI hF=>⟨nth l t,K,oe β aS,.v x,Δ,by rw [results_tmp hr,ke],hI.pick hB hl hn hx,by have:=hF.nth t;rw [hg] at this;rw [Rel.gk this];exact .v _,h⟩⟩
theorem Tl {t:Tmp} {T:TypeId} {k:Nat} [hT:Ty P T true k] {i:Nat} {E:TypeId} {cs:List GV} (aS:List Nat) (Δ:List Ob) (hr:fn.results=#[.cell t T]) (he:e=.normal\/e=.ret) (hg:cz fr t=.loc i 0) (bM:Γ[i]?=some (.box E cs)) (hk:cs.length=k) (hp:qm cs=true)
  (hl:Δ.length=aS.length) (hn:aS.Nodup) (hx:∀ (j:Nat) x,Δ[j]?=some x->x.ko=true/\∀ i,aS[j]?=some i->Γ[i]?=some x) (h:R (.agg cs) Δ):rl P fn 0 R e fr Γ :=
 ⟨he,fun B K β w l hB hI hF=>by
  obtain ⟨b,vs,F,I,h3,h4⟩:=hI.ob i _ bM
  have OX:nth l t=.pointer (some ⟨b,0,none⟩):=by
   have:=hF.nth t;rw [hg] at this;generalize nth l t=v at this
   cases this with
   | loc _ _ b' bD=>rw [F] at bD;cases bD;rfl
  have lG:l.toArray.getD t undef=.pointer (some ⟨b,0,none⟩):=by rw [ke,OX]
  have CU:=nj (P:=P) (w:=w) (t:=T) (b:=b) (o:=0) (vs:=vs) (k:=k) (by rw [h3.1,hk]) (fun j v hj=>by
   rw [cI,cell_of_row w b j _ E (0,0) I];simpa using hj)
  have xX:l[t]?.getD undef=.pointer (some ⟨b,0,none⟩):=by simpa using lG
  have h5:bq K (oe β aS) vs cs:=h3.qm (nf hp)
  exact ⟨.agg vs.toArray,K,oe β aS,.agg cs,Δ,by simp [results,hr,xX,asAddr,CU],hI.pick hB hl hn hx,.agg vs cs h5.1 h5.2,h⟩⟩
end
section
variable {P:Program} {fn:Func} {R:GV->List Ob->Prop} {fr:List GV} {Γ:List Ob} {e:Exit}
theorem EU {Γ:List Ob} {n:Nat} (h:∀ x∈Γ.drop n,x.ko=true):(Γ.drop n).length=((List.range (Γ.length - n)).map (·+n)).length/\((List.range (Γ.length - n)).map (·+n)).Nodup /\
  ∀ (j:Nat) x,(Γ.drop n)[j]?=some x->x.ko=true/\∀ i,((List.range (Γ.length - n)).map (·+n))[j]?=some i->Γ[i]?=some x:=by
 refine ⟨by simp,?_,fun j x hj=>⟨h x (bA hj),fun i hi=>?_⟩⟩
 ·unfold List.Nodup;rw [List.pairwise_map]
  exact List.nodup_range.imp fun ct he=>ct G
 ·have ak:=(bo hj).1;rw [jv] at ak;rw [aP,List.getElem?_range ak] at hi;cases hi;rw [List.getElem?_drop] at hj;show Γ[j+n]?=some x;rw [Nat.add_comm];exact hj
theorem Al {t:Tmp} {x:Value} (n:Nat) (hr:fn.results=#[.tmp t]) (he:e=.normal\/e=.ret) (hg:cz fr t=.v x) (ha:∀ x∈Γ.drop n,x.ko=true) (h:R (.v x) (Γ.drop n)):rl P fn 0 R e fr Γ :=
 have hd:=EU ha
 Zg _ (Γ.drop n) hr he hg hd.1 hd.2.1 hd.2.2 h
theorem LW {t:Tmp} {T:TypeId} {k:Nat} [hT:Ty P T true k] {i:Nat} {E:TypeId} {cs:List GV} (n:Nat) (hr:fn.results=#[.cell t T]) (he:e=.normal\/e=.ret) (hg:cz fr t=.loc i 0) (bM:Γ[i]?=some (.box E cs)) (hk:cs.length=k) (hp:qm cs=true)
  (ha:∀ x∈Γ.drop n,x.ko=true) (h:R (.agg cs) (Γ.drop n)):rl P fn 0 R e fr Γ :=
 have hd:=EU ha
 Tl _ (Γ.drop n) hr he hg bM hk hp hd.1 hd.2.1 hd.2.2 h
end
section
variable {P:Program} {m:Nat} {Q:dU} {fr:List GV} {Γ:List Ob} {ops:Array Oper} {rest:List Oper} {d:Option Tmp} {op:Op} {ty:TypeId} {pos:String} {af:Array Edge}
theorem GL.mo {t:TypeId} {x:Operand} {cs:List GV} (hx:lY (bb fr x)=some cs) (hp:qm cs=true) (h:GL P m ops Q rest (bJ fr d (.box cs 0)) Γ):GL P m ops Q (⟨d,.box t x,ty,pos,af,none⟩::rest) fr Γ:=fun B K β w l hm hI hF=>by
 obtain ⟨vs,F,I⟩:=(hF.ev x).cells hx
 refine WL.box rfl fun b w' hn=>?_
 rw [F] at hn;obtain ⟨hle,bE⟩:=hI.vy hn I (nf hp);exact h B _ β w' _ hm bE ((hF.mono hle (dX.refl β)).put d (Rel.box (K:=mn K b cs) (β:=β) b 0 0 cs (fun j g hg=>by rw [cI];exact wB hg)))
theorem GL.borrow {f:FuncId} [hf:aJ P f] {args:List Operand} {nq:Array TypeId} {gs:List GV} {v:Value} (hc:GF P f gs [] (.v v) [])
  (hv:∀ B K β w l,Inv B K β Γ w->FR K β fr l->∃ K1,lK K1 w/\jZ K1 (fun _=>.no) w/\bq K1 (fun _=>.no) (args.map (ev l)) gs)
  (h:GL P m ops Q rest (bJ fr d (.v v)) Γ):GL P m ops Q (⟨d,.call ⟨.value (.func f),args.toArray,nq⟩,ty,pos,af,none⟩::rest) fr Γ:=fun B K β w l hm hI hF=>by
 obtain ⟨K1,F,I,h3⟩:=hv B K β w l hI hF
 have tz:(execOp (ev l) ⟨d,.call ⟨.value (.func f),args.toArray,nq⟩,ty,pos,af,none⟩).run P w=.ok (.enter f (args.map (ev l)).toArray) w:=by simp [execOp,resolve,ev,Deferred.ofValue,invoke,ng]
 refine WL.calls tz (hc _ K1 _ w _ rfl (Inv.new F I) h3) ?_;rintro x w' ⟨K',bT,g,aR,bE,fX,rfl,rfl⟩;exact h B K β w' _ hm (hI.same bE.ext) (hF.put d (by rw [Rel.gk fX];exact .v _))
theorem vd {P:Program} {w:World} {t e ty:TypeId} {i:TypeInfo} (hu:P.underlying t=some (.slice e)) (hi:P.info? e=some i) (a b:Option Addr) (n c d:Nat) (hc:n<=c) :
  (Builtin.append_ #[t,t] ty #[.slice a n c,.slice b 0 d]).run P w=.ok (.slice a n c) w:=by
 cases a <;> cases b <;> simp [Builtin.append_,run_underlying hu,sizeOf,typeInfo,hi,Builtin.lenOf,hc,Builtin.firstCells,loadCells,loadCellsFrom,storeCells]
theorem GL.Y3 {s x:Operand} {t e k iM:Nat} [hT:pN P t e k iM] (i:Nat) {dt:Tmp} {v:Value} {rows:List (List GV)} (hx:bb fr x=.sl k []) (hs:bb fr s=.v v) (bM:Γ[i]?=some (.vech e k rows v))
  (h:GL P m ops Q rest (bJ fr (some dt) (.v v)) Γ):GL P m ops Q (⟨some dt,.call ⟨.builtin .append,#[s,x],#[t,t]⟩,ty,pos,af,none⟩::rest) fr Γ:=fun B K β w l hm hI hF=>by
 obtain ⟨hu,⟨j,z,hi,_⟩,_⟩:=hT.parts;obtain ⟨xs,o1,o2,_⟩:=hI.ob i _ bM;have sc:ev l s=v:=hF.jF hs;have uZ:=hF.ev x;rw [hx] at uZ;generalize tA:ev l x=vx at uZ
 obtain ⟨b,d',rfl⟩:∃ b d',vx=.slice b 0 d':=by
  cases uZ with
  | sl0 a c k=>exact ⟨a,c,rfl⟩
  | sl b o c _ _ hr _=>exact ⟨_,_,rfl⟩
 obtain ⟨a,n,c,rfl,hc⟩:∃ a n c,v=.slice a n c/\n<=c:=by
  rcases o2.2 with ⟨e1,e2⟩ | ⟨g,cap,cur,e1,_,_,e2,_⟩
  ·exact ⟨_,_,_,e1,aE _⟩
  ·exact ⟨_,_,_,e1,e2⟩
 have ow:=vd (P:=P) (w:=w) (ty:=ty) hu hi a b n c d' hc;exact WL.val (v:=.slice a n c) (w':=w) (by simp [execOp,resolve,invoke,builtin,sc,tA,ow]) (h B K β w _ hm hI (hF.put _ (.v _)))
theorem GL.Y6 {s x:Operand} {t e k iM:Nat} [hT:pN P t e k iM] {i n fz:Nat} {dt:Tmp} {rows:List (List GV)} (hx:bb fr x=.sl k []) (hs:bb fr s=.vec i n) (bM:Γ[i]?=some (.vec e k fz rows)) (hn:rows.length=n)
  (h:GL P m ops Q rest (bJ fr (some dt) (.vec i n)) Γ):GL P m ops Q (⟨some dt,.call ⟨.builtin .append,#[s,x],#[t,t]⟩,ty,pos,af,none⟩::rest) fr Γ:=fun B K β w l hm hI hF=>by
 subst hn;obtain ⟨hu,⟨j,z,hi,_⟩,_⟩:=hT.parts;obtain ⟨h0,xs,o1,o2,_⟩:=hI.ob i _ bM;have uX:=hF.ev s;rw [hs] at uX
 have sc:ev l s=h0:=by
  generalize hv:ev l s=v at uX
  cases uX with
  | vec _ _ a c hh =>
   obtain ⟨h',m',e1,e2,e3⟩:=hh;rw [o1] at e1;cases e1;exact e3 rfl
 have uZ:=hF.ev x;rw [hx] at uZ;generalize tA:ev l x=vx at uZ
 obtain ⟨b,d',rfl⟩:∃ b d',vx=.slice b 0 d':=by
  cases uZ with
  | sl0 a c k=>exact ⟨a,c,rfl⟩
  | sl b o c _ _ hr _=>exact ⟨_,_,rfl⟩
 obtain ⟨a,n,c,rfl,hc⟩:∃ a n c,h0=.slice a n c/\n<=c:=by
  rcases o2.2 with ⟨e1,e2⟩ | ⟨g,cap,cur,e1,_,_,e2,_⟩
  ·exact ⟨_,_,_,e1,aE _⟩
  ·exact ⟨_,_,_,e1,e2⟩
 have ow:=vd (P:=P) (w:=w) (ty:=ty) hu hi a b n c d' hc;exact WL.val (v:=.slice a n c) (w':=w) (by simp [execOp,resolve,invoke,builtin,sc,tA,ow]) (h B K β w _ hm hI (hF.put _ (by have:=hF.ev s;rw [hs,sc] at this;exact this)))
theorem vP {Γ:List Ob} {i:Nat} {x:Ob} (h:Γ[i]?=some x):oset Γ i x=Γ:=by
 rw [aZ];apply List.ext_getElem?;intro j;rw [dx]
 by_cases e:i=j
 ·subst e;have:=(bo h).1;rw [ab rfl,ab this,h]
 ·rw [L e]
theorem GL.qv {s x:Operand} {t e k iM:Nat} [hT:pN P t e k iM] (i:Nat) {n:Nat} {dt:Tmp} {a0:Option Addr} {c0:Nat} {rows news:List (List GV)} (hx:bb fr x=.sl k news) (hs:bb fr s=.v (.slice a0 n c0)) (bM:Γ[i]?=some (.vech e k rows (.slice a0 n c0))) (hn:rows.length=n) (F:kT news=true)
  (hb:n+news.length<=9223372036854775807/\(n+news.length) * iM<=140737488355328)
  (h:∀ a c,GL P m ops Q rest (bJ fr (some dt) (.v (.slice a (n+news.length) c))) (oset Γ i (.vech e k (rows++news) (.slice a (n+news.length) c)))) :
  GL P m ops Q (⟨some dt,.call ⟨.builtin .append,#[s,x],#[t,t]⟩,ty,pos,af,none⟩::rest) fr Γ:=by
 cases news with
 | nil =>
  have h0:=h a0 c0;rw [cY,show n+([]:List (List GV)).length=n from rfl,vP bM] at h0;exact GL.Y3 i hx hs bM h0
 | cons r rs=>exact GL.qA i hx hs bM hn F rfl hb h
theorem GL.Ab {s x:Operand} {t e k iM:Nat} [hT:pN P t e k iM] {i n fz:Nat} {dt:Tmp} {rows news:List (List GV)} (hx:bb fr x=.sl k news) (hs:bb fr s=.vec i n) (bM:Γ[i]?=some (.vec e k fz rows)) (hn:rows.length=n) (F:kT news=true)
  (hb:n+news.length<=9223372036854775807/\(n+news.length) * iM<=140737488355328)
  (h:GL P m ops Q rest (bJ fr (some dt) (.vec i (n+news.length))) (oset Γ i (.vec e k fz (rows++news)))) :
  GL P m ops Q (⟨some dt,.call ⟨.builtin .append,#[s,x],#[t,t]⟩,ty,pos,af,none⟩::rest) fr Γ:=by
 cases news with
 | nil =>
  rw [cY,show n+([]:List (List GV)).length=n from rfl,vP bM] at h;exact GL.Y6 hx hs bM hn h
 | cons r rs=>exact GL.app hx hs bM hn F rfl hb h
theorem P5:∀ (us vs:List Value),vs.length=us.length->jq vs 0 us=us:=by
 have key:∀ (us a vs:List Value),vs.length=us.length->jq (a++vs) a.length us=a++us:=by
  intro us
  induction us with
  | nil=>intro a vs h;rw [iC h];rfl
  | cons u us ih =>
   intro a vs h
   cases vs with
   | nil=>simp at h
   | cons v vs =>
    have hu:fV (a++v::vs) a.length u=(a++[u])++vs:=by
     clear ih h
     induction a with
     | nil=>rfl
     | cons x a ih=>rw [List.cons_append,length_cons,fV,ih];rfl
    have:=ih (a++[u]) vs (by simpa using h);rw [aO,List.length_singleton] at this;rw [jq,hu,this];simp
 intro us vs h;exact key us [] vs h
theorem GL.wm {t:TypeId} {z:Value} {agg:Bool} {k:Nat} [hZ:rU P t z] [hT:Ty P t agg k] {dt ts:Tmp} {cs:List GV} {YP:TypeId} {Sj:String} {V2:Array Edge} {d2:Option Tmp} (Pb:z.cells.size=k) (hy:lY (cz fr ts)=some cs) (ct:Nat.beq ts dt=false) (gD:jj fr dt=true) (hk:cs.length=k) (F:mO cs=true) (hp:qm cs=true)
  (h:GL P m ops Q rest (bJ (bJ fr (some dt) (.box cs 0)) d2 (.v undef)) Γ):GL P m ops Q (⟨some dt,.alloc t,ty,pos,af,none⟩::⟨d2,.store t (.tmp dt) (.tmp ts),YP,Sj,V2,none⟩::rest) fr Γ:=fun B K β w l hm hI hF=>by
 refine WL.alloc (z:=z) fun b w1 hn=>?_
 obtain ⟨us,lH,me⟩:=(hF.nth ts).cells hy
 have BS:ts≠dt:=by intro e;subst e;simp at ct
 have XK:ev (put l (some dt) (.pointer (some ⟨b,0,none⟩))) (.tmp ts)=nth l ts:=pG BS _;have Kq:ev (put l (some dt) (.pointer (some ⟨b,0,none⟩))) (.tmp dt)=.pointer (some ⟨b,0,none⟩):=uv (n9 hF gD) _
 have Fj:us.length=k:=by rw [me.1,hk]
 refine WL.st (t:=t) (k:=k) Kq XK hn.blk (by rw [lH];simpa using Fj) G (by rw [lH];simpa using me.nb F) fun w2 hs=>?_
 have bR:wu z.cells 0 us=us.toArray:=by
  have:=vS us z.cells.toList 0;rw [P5 us _ (by rw [Array.length_toList,Pb,Fj])] at this;simpa using this
 rw [lH,List.toList_toArray,bR] at hs;have D8:wy w w2 b (.cells us.toArray t):=⟨hn.fresh,by rw [hs.size];exact hn.size,hs.blk,hn.ext.step hs.ext fun j hj=>.inl (by subst hj;rw [hn.fresh];exact aE _)⟩;obtain ⟨hle,bE⟩:=hI.vy D8 me (nf hp);exact h B _ β w2 _ hm bE (((hF.mono hle (dX.refl β)).put (some dt) (Rel.box (K:=mn K b cs) (β:=β) b 0 0 cs (fun j g hg=>by rw [cI];exact wB hg))).put d2 (.v _))
end
end Go.Xg
set_option maxHeartbeats 2000000
namespace Go.Xg
open GV (U)
open Go.RowKit Go.Xw Go.Proofs Tryz
open Go.Xp (Nd Ar)
open Go.Sp (Src)
open Go.Im (mx mw mu)
attribute [local irreducible] GW GL GO YG GC GA be bg
def br (l:List ae):List (List GV):=l.map fun s=>[GV.v (sv s)]
def fK (l:List Int):List (List GV):=l.map fun i=>[GV.v (ii i)]
def Hd (n:Nat) (h:Value):Prop:=∃ a c,h=.slice a n c
theorem Bu (l:List ae) (hl:l.length<=1048576):GC prog 31 [strs l] [] fun g Δ=>∃ h,Hd l.length h/\g=.v h/\Δ=[.vech 9 1 (br l) h]:=by
 have hm:(l.map (fun s=>[GV.v (sv s)])).length=l.length:=by simp
 refine ah func31 ntmps31 ?_;refine GL.Bi rfl ⟨by omega,by omega⟩ ?_;intro a c;refine dk ?_;refine D ?_;refine GW.loop (fun k:Nat=>l.length - k) (fun k fr Γ=>∃ R Z,fr=[strs l,U,U,.v (.slice a (l.map (fun s=>[GV.v (sv s)])).length c),.v (ii (k:Nat)),U,U,U,U,U,U,U,U,U,U,U,U,U,U,U,U,U]/\Γ=[.vech 9 1 R (.slice a (l.map (fun s=>[GV.v (sv s)])).length c)]/\k<=l.length/\R=(l.take k).map (fun s=>[GV.v (sv s)])++List.replicate (l.length - k) Z) 0 ?_ ?_
 ·exact ⟨_,_,Wk.aH ar,_,_,rfl,rfl,aM _,by rw [hm];rfl⟩
 rintro k _ _ ⟨R,Z,rfl,rfl,hk,hR⟩
 have l0:R.length=l.length:=by rw [hR];exact mw hk
 have gh:R.length=(l.map (fun s=>[GV.v (sv s)])).length:=by rw [hm];exact l0
 by_cases ak:k < l.length
 ·have hx:l[k]?=some l[k]:=by simp [ak]
  have hr:(l.map (fun s=>[GV.v (sv s)]))[k]?=some ((fun s=>[GV.v (sv s)]) l[k]):=by rw [aP,hx];rfl
  have dZ:decide ((k:Int) < ((l.map (fun s=>[GV.v (sv s)])).length:Int))=true:=by rw [hm];simpa using ak
  have bR:=mx (f:=(fun s=>[GV.v (sv s)])) (Z:=Z) hx;rw [<-hR] at bR;clear hR;generalize l[k]=x at *;refine D ?_;refine lV ?_;refine D ?_;exact ⟨k+1,⟨_,_,Wk.aH ar,_,Z,rfl,rfl,ak,bR⟩,by show l.length - (k+1) < l.length - k;omega⟩
 ·have dZ:decide ((k:Int) < ((l.map (fun s=>[GV.v (sv s)])).length:Int))=false:=by rw [hm];simpa using ak
  have mY:k=l.length:=by omega
  subst mY;rw [mu] at hR;subst hR;refine cw ?_;refine D ?_;refine ny ?_;exact Al 0 rfl dI rfl (fun x hx=>by rw [sP hx];rfl) ⟨_,⟨_,_,by rw [hm]⟩,rfl,rfl⟩
theorem SM (l:List Int) (hl:l.length<=1048576):GC prog 138 [ints l] [] fun g Δ=>∃ h,Hd l.length h/\g=.v h/\Δ=[.vech 3 1 (fK l) h]:=by
 have hm:(l.map (fun i=>[GV.v (ii i)])).length=l.length:=by simp
 refine ah func138 ntmps138 ?_;refine GL.Bi rfl ⟨by omega,by omega⟩ ?_;intro a c;refine dk ?_;refine D ?_;refine GW.loop (fun k:Nat=>l.length - k) (fun k fr Γ=>∃ R Z,fr=[ints l,U,U,.v (.slice a (l.map (fun i=>[GV.v (ii i)])).length c),.v (ii (k:Nat)),U,U,U,U,U,U,U,U,U,U,U,U,U,U,U,U,U]/\Γ=[.vech 3 1 R (.slice a (l.map (fun i=>[GV.v (ii i)])).length c)]/\k<=l.length/\R=(l.take k).map (fun i=>[GV.v (ii i)])++List.replicate (l.length - k) Z) 0 ?_ ?_
 ·exact ⟨_,_,Wk.aH ar,_,_,rfl,rfl,aM _,by rw [hm];rfl⟩
 rintro k _ _ ⟨R,Z,rfl,rfl,hk,hR⟩
 have l0:R.length=l.length:=by rw [hR];exact mw hk
 have gh:R.length=(l.map (fun i=>[GV.v (ii i)])).length:=by rw [hm];exact l0
 by_cases ak:k < l.length
 ·have hx:l[k]?=some l[k]:=by simp [ak]
  have hr:(l.map (fun i=>[GV.v (ii i)]))[k]?=some ((fun i=>[GV.v (ii i)]) l[k]):=by rw [aP,hx];rfl
  have dZ:decide ((k:Int) < ((l.map (fun i=>[GV.v (ii i)])).length:Int))=true:=by rw [hm];simpa using ak
  have bR:=mx (f:=(fun i=>[GV.v (ii i)])) (Z:=Z) hx;rw [<-hR] at bR;clear hR;generalize l[k]=x at *;refine D ?_;refine lV ?_;refine D ?_;exact ⟨k+1,⟨_,_,Wk.aH ar,_,Z,rfl,rfl,ak,bR⟩,by show l.length - (k+1) < l.length - k;omega⟩
 ·have dZ:decide ((k:Int) < ((l.map (fun i=>[GV.v (ii i)])).length:Int))=false:=by rw [hm];simpa using ak
  have mY:k=l.length:=by omega
  subst mY;rw [mu] at hR;subst hR;refine cw ?_;refine D ?_;refine ny ?_;exact Al 0 rfl dI rfl (fun x hx=>by rw [sP hx];rfl) ⟨_,⟨_,_,by rw [hm]⟩,rfl,rfl⟩
theorem MW (l:List Ar) (hl:l.length<=1048576):GC prog 32 [.sl 2 (l.map az)] [] fun g Δ=>∃ h,Hd l.length h/\g=.v h/\Δ=[.vech 56 2 (List.map az l) h]:=by
 have hm:(l.map (az)).length=l.length:=by simp
 refine ah func32 ntmps32 ?_;refine GL.Bi rfl ⟨by omega,by omega⟩ ?_;intro a c;refine dk ?_;refine D ?_;refine GW.loop (fun k:Nat=>l.length - k) (fun k fr Γ=>∃ R Z,fr=[.sl 2 (l.map az),U,U,.v (.slice a (l.map (az)).length c),.v (ii (k:Nat)),U,U,U,U,U,U,U,U,U,U,U,U,U,U,U,U,U,U]/\Γ=[.vech 56 2 R (.slice a (l.map (az)).length c)]/\k<=l.length/\R=(l.take k).map (az)++List.replicate (l.length - k) Z) 0 ?_ ?_
 ·exact ⟨_,_,Wk.aH ar,_,_,rfl,rfl,aM _,by rw [hm];rfl⟩
 rintro k _ _ ⟨R,Z,rfl,rfl,hk,hR⟩
 have l0:R.length=l.length:=by rw [hR];exact mw hk
 have gh:R.length=(l.map (az)).length:=by rw [hm];exact l0
 by_cases ak:k < l.length
 ·have hx:l[k]?=some l[k]:=by simp [ak]
  have hr:(l.map (az))[k]?=some ((az) l[k]):=by rw [aP,hx];rfl
  have dZ:decide ((k:Int) < ((l.map (az)).length:Int))=true:=by rw [hm];simpa using ak
  have bR:=mx (f:=(az)) (Z:=Z) hx;rw [<-hR] at bR;have hc:=FW l[k];clear hR;generalize l[k]=x at *;refine D ?_;refine V [] hc ?_;refine lV ?_;refine D ?_;exact ⟨k+1,⟨_,_,Wk.aH ar,_,Z,rfl,rfl,ak,bR⟩,by show l.length - (k+1) < l.length - k;omega⟩
 ·have dZ:decide ((k:Int) < ((l.map (az)).length:Int))=false:=by rw [hm];simpa using ak
  have mY:k=l.length:=by omega
  subst mY;rw [mu] at hR;subst hR;refine cw ?_;refine D ?_;refine ny ?_;exact Al 0 rfl dI rfl (fun x hx=>by rw [sP hx];rfl) ⟨_,⟨_,_,by rw [hm]⟩,rfl,rfl⟩
def ea (x:Go.Sp.Fn) (h:Value):List GV:=[.v (sv x.name),.v h,.v (ii x.body)]
def eZ (x:Go.Sp.Fn) (h:Value):Ob:=.vech 9 1 (br x.params) h
theorem YM (x:Go.Sp.Fn) (hp:x.params.length<=1048576):GC prog 87 [.agg (au x)] [] fun g Δ=>∃ h,Hd x.params.length h/\g=.agg (ea x h)/\Δ=[eZ x h]:=by
 have h0:=Bu x.params hp;refine ah func87 ntmps87 ?_;refine cM [] h0 ?_;rintro _ _ ⟨_,⟨a1,c1,rfl⟩,rfl,rfl⟩;refine dH ?_;refine D ?_;refine ny ?_;refine LW 3 rfl dI rfl rfl rfl rfl ?_ ?_
 ·intro x hx;rw [sP hx];rfl
 ·exact ⟨_,⟨_,_,rfl⟩,rfl,rfl⟩
theorem VT (l:List Go.Sp.Fn) (hl:l.length<=1048576) (he:∀ x∈l,x.params.length<=1048576):GC prog 33 [.sl 3 (l.map au)] [] fun g Δ=>∃ h hs,Hd l.length h/\hs.length=l.length/\(∀ (i:Nat) x y,l[i]?=some x->hs[i]?=some y->Hd x.params.length y)/\g=.v h /\
  Δ=.vech 58 3 (List.zipWith ea l hs) h::List.zipWith eZ l hs:=by
 have hm:(l.map au).length=l.length:=by simp
 refine ah func33 ntmps33 ?_;refine GL.Bi rfl ⟨by omega,by omega⟩ ?_;intro a c;refine dk ?_;refine D ?_
 refine GW.loop (fun k:Nat=>l.length - k) (fun k fr Γ=>∃ R Z hs,fr=[.sl 3 (l.map au),U,U,.v (.slice a (l.map au).length c),.v (ii (k:Nat)),U,U,U,U,U,U,U,U,U,U,U,U,U,U,U,U,U,U]/\Γ=.vech 58 3 R (.slice a (l.map au).length c)::List.zipWith eZ (l.take k) hs/\k<=l.length/\hs.length=k /\
  (∀ (i:Nat) x y,l[i]?=some x->hs[i]?=some y->Hd x.params.length y)/\R=List.zipWith ea (l.take k) hs++List.replicate (l.length - k) Z) 0 ?_ ?_
 ·exact ⟨_,_,Wk.aH ar,_,_,[],rfl,rfl,aM _,rfl,(fun i x y _ h=>by simp at h),by rw [hm];rfl⟩
 rintro k _ _ ⟨R,Z,hs,rfl,rfl,hk,Hf,OR,hR⟩
 have l0:R.length=l.length:=by rw [hR,aO,jE,cX,List.length_replicate];omega
 have gh:R.length=(l.map au).length:=by rw [hm];exact l0
 by_cases ak:k < l.length
 ·have hx:l[k]?=some l[k]:=by simp [ak]
  have hr:(l.map au)[k]?=some (au l[k]):=by rw [aP,hx];rfl
  have dZ:decide ((k:Int) < ((l.map au).length:Int))=true:=by rw [hm];simpa using ak
  have hex:=he _ (bA hx);have hc:=YM l[k] hex
  have jU:l.take (k+1)=l.take k++[l[k]]:=by rw [cq,hx];rfl
  have Pd:∀ {γ:Type} (f:Go.Sp.Fn->Value->γ) (h:Value),List.zipWith f (l.take (k+1)) (hs++[h])=List.zipWith f (l.take k) hs++[f l[k] h]:=fun f h=>by
   rw [jU,List.zipWith_append (by rw [cX];omega)];rfl
  have bR:∀ h,R.set k (ea l[k] h)=List.zipWith ea (l.take (k+1)) (hs++[h])++List.replicate (l.length - (k+1)) Z:=fun h=>by
   have hz:(List.zipWith ea (l.take k) hs).length=k:=by rw [jE,cX];omega
   rw [hR,Pd,show l.length - k=(l.length - (k+1))+1 by omega,List.replicate_succ,List.set_append_right _ _ G,hz,gT,List.set_cons_zero];simp
  have Rs:∀ h,Hd l[k].params.length h->∀ (i:Nat) x y,l[i]?=some x->(hs++[h])[i]?=some y->Hd x.params.length y:=fun h hh i x y F I=>by
   by_cases hik:i < hs.length
   ·rw [fO hik] at I;exact OR i x y F I
   ·have h3:=(bo I).1;rw [aO,List.length_singleton] at h3
    have:i=k:=by omega
    subst this;rw [fa G,Hf,gT] at I;rw [hx] at F
    cases F;cases I;exact hh
  clear hR;have Xy:=Pd eZ;unfold ea eZ at hc;generalize hlx:l[k]=x at *;refine D ?_;refine cM [] hc ?_;rintro _ _ ⟨_,⟨a1,c1,rfl⟩,rfl,rfl⟩;refine dH ?_;refine D ?_;refine lV ?_;refine D ?_;refine ⟨k+1,⟨_,_,Wk.aH ar,_,Z,hs++[_],rfl,?_,ak,by simp [Hf],Rs _ ⟨a1,c1,rfl⟩,bR _⟩,by show l.length - (k+1) < l.length - k;omega⟩;rw [Xy];rfl
 ·have dZ:decide ((k:Int) < ((l.map au).length:Int))=false:=by rw [hm];simpa using ak
  have mY:k=l.length:=by omega
  subst mY;rw [bW,gT,List.replicate_zero,cY] at hR;subst hR;rw [bW];refine cw ?_;refine D ?_;refine ny ?_;refine Al 0 rfl dI rfl (fun x hx=>?_) ⟨_,hs,⟨_,_,by rw [hm]⟩,Hf,OR,rfl,rfl⟩
  rcases de hx with rfl | hx
  ·rfl
  ·obtain ⟨i,hi⟩:=List.getElem?_of_mem hx;rw [List.getElem?_zipWith] at hi;split at hi
   ·cases hi;rfl
   ·cases hi
def bs (x:Nd) (h:Value):List GV:=[.v (ii x.kind),.v (ii x.at_),.v (ii x.n),.v (sv x.s),.v h]
def bz (x:Nd) (h:Value):Ob:=.vech 3 1 (fK x.kids) h
theorem SO (x:Nd) (hp:x.kids.length<=1048576):GC prog 88 [.agg (ax x)] [] fun g Δ=>∃ h,Hd x.kids.length h/\g=.agg (bs x h)/\Δ=[bz x h]:=by
 have h0:=SM x.kids hp;refine ah func88 ntmps88 ?_;refine cM [] h0 ?_;rintro _ _ ⟨_,⟨a1,c1,rfl⟩,rfl,rfl⟩;refine dH ?_;refine D ?_;refine ny ?_;refine LW 3 rfl dI rfl rfl rfl rfl ?_ ?_
 ·intro x hx;rw [sP hx];rfl
 ·exact ⟨_,⟨_,_,rfl⟩,rfl,rfl⟩
theorem Qp (l:List Nd) (hl:l.length<=1048576) (he:∀ x∈l,x.kids.length<=1048576):GC prog 34 [.sl 5 (l.map ax)] [] fun g Δ=>∃ h hs,Hd l.length h/\hs.length=l.length/\(∀ (i:Nat) x y,l[i]?=some x->hs[i]?=some y->Hd x.kids.length y)/\g=.v h /\
  Δ=.vech 62 5 (List.zipWith bs l hs) h::List.zipWith bz l hs:=by
 have hm:(l.map ax).length=l.length:=by simp
 refine ah func34 ntmps34 ?_;refine GL.Bi rfl ⟨by omega,by omega⟩ ?_;intro a c;refine dk ?_;refine D ?_
 refine GW.loop (fun k:Nat=>l.length - k) (fun k fr Γ=>∃ R Z hs,fr=[.sl 5 (l.map ax),U,U,.v (.slice a (l.map ax).length c),.v (ii (k:Nat)),U,U,U,U,U,U,U,U,U,U,U,U,U,U,U,U,U,U]/\Γ=.vech 62 5 R (.slice a (l.map ax).length c)::List.zipWith bz (l.take k) hs/\k<=l.length/\hs.length=k /\
  (∀ (i:Nat) x y,l[i]?=some x->hs[i]?=some y->Hd x.kids.length y)/\R=List.zipWith bs (l.take k) hs++List.replicate (l.length - k) Z) 0 ?_ ?_
 ·exact ⟨_,_,Wk.aH ar,_,_,[],rfl,rfl,aM _,rfl,(fun i x y _ h=>by simp at h),by rw [hm];rfl⟩
 rintro k _ _ ⟨R,Z,hs,rfl,rfl,hk,Hf,OR,hR⟩
 have l0:R.length=l.length:=by rw [hR,aO,jE,cX,List.length_replicate];omega
 have gh:R.length=(l.map ax).length:=by rw [hm];exact l0
 by_cases ak:k < l.length
 ·have hx:l[k]?=some l[k]:=by simp [ak]
  have hr:(l.map ax)[k]?=some (ax l[k]):=by rw [aP,hx];rfl
  have dZ:decide ((k:Int) < ((l.map ax).length:Int))=true:=by rw [hm];simpa using ak
  have hex:=he _ (bA hx);have hc:=SO l[k] hex
  have jU:l.take (k+1)=l.take k++[l[k]]:=by rw [cq,hx];rfl
  have Pd:∀ {γ:Type} (f:Nd->Value->γ) (h:Value),List.zipWith f (l.take (k+1)) (hs++[h])=List.zipWith f (l.take k) hs++[f l[k] h]:=fun f h=>by
   rw [jU,List.zipWith_append (by rw [cX];omega)];rfl
  have bR:∀ h,R.set k (bs l[k] h)=List.zipWith bs (l.take (k+1)) (hs++[h])++List.replicate (l.length - (k+1)) Z:=fun h=>by
   have hz:(List.zipWith bs (l.take k) hs).length=k:=by rw [jE,cX];omega
   rw [hR,Pd,show l.length - k=(l.length - (k+1))+1 by omega,List.replicate_succ,List.set_append_right _ _ G,hz,gT,List.set_cons_zero];simp
  have Rs:∀ h,Hd l[k].kids.length h->∀ (i:Nat) x y,l[i]?=some x->(hs++[h])[i]?=some y->Hd x.kids.length y:=fun h hh i x y F I=>by
   by_cases hik:i < hs.length
   ·rw [fO hik] at I;exact OR i x y F I
   ·have h3:=(bo I).1;rw [aO,List.length_singleton] at h3
    have:i=k:=by omega
    subst this;rw [fa G,Hf,gT] at I;rw [hx] at F
    cases F;cases I;exact hh
  clear hR;have Xy:=Pd bz;unfold bs bz at hc;generalize hlx:l[k]=x at *;refine D ?_;refine cM [] hc ?_;rintro _ _ ⟨_,⟨a1,c1,rfl⟩,rfl,rfl⟩;refine dH ?_;refine D ?_;refine lV ?_;refine D ?_;refine ⟨k+1,⟨_,_,Wk.aH ar,_,Z,hs++[_],rfl,?_,ak,by simp [Hf],Rs _ ⟨a1,c1,rfl⟩,bR _⟩,by show l.length - (k+1) < l.length - k;omega⟩;rw [Xy];rfl
 ·have dZ:decide ((k:Int) < ((l.map ax).length:Int))=false:=by rw [hm];simpa using ak
  have mY:k=l.length:=by omega
  subst mY;rw [bW,gT,List.replicate_zero,cY] at hR;subst hR;rw [bW];refine cw ?_;refine D ?_;refine ny ?_;refine Al 0 rfl dI rfl (fun x hx=>?_) ⟨_,hs,⟨_,_,by rw [hm]⟩,Hf,OR,rfl,rfl⟩
  rcases de hx with rfl | hx
  ·rfl
  ·obtain ⟨i,hi⟩:=List.getElem?_of_mem hx;rw [List.getElem?_zipWith] at hi;split at hi
   ·cases hi;rfl
   ·cases hi
def gI (p:Src) (hg ha hf hn:Value) (fs ns:List Value):List Ob :=
 .vech 9 1 (br p.globals) hg::.vech 56 2 (p.arrays.map az) ha::.vech 58 3 (List.zipWith ea p.fns fs) hf::(List.zipWith eZ p.fns fs++.vech 62 5 (List.zipWith bs p.nodes ns) hn::List.zipWith bz p.nodes ns)
structure ra (p:Src) (hg ha hf hn:Value) (fs ns:List Value):Prop where
 g:Hd p.globals.length hg
 a:Hd p.arrays.length ha
 f:Hd p.fns.length hf
 n:Hd p.nodes.length hn
 fl:fs.length=p.fns.length
 nl:ns.length=p.nodes.length
 fh:∀ (i:Nat) x y,p.fns[i]?=some x->fs[i]?=some y->Hd x.params.length y
 nh:∀ (i:Nat) x y,p.nodes[i]?=some x->ns[i]?=some y->Hd x.kids.length y
theorem eR {α:Type} {f:α->Value->Ob} (hf:∀ a h,(f a h).ko=true) {l:List α} {hs:List Value}:∀ x∈List.zipWith f l hs,x.ko=true:=fun x hx=>by
 obtain ⟨i,hi⟩:=List.getElem?_of_mem hx;rw [List.getElem?_zipWith] at hi;split at hi
 ·cases hi;exact hf _ _
 ·cases hi
theorem nP (p:Src) (hg ha hf hn:Value) (fs ns:List Value):∀ x∈gI p hg ha hf hn fs ns,x.ko=true:=fun x hx=>by
 unfold gI at hx
 rcases de hx with rfl | hx
 ·rfl
 rcases de hx with rfl | hx
 ·rfl
 rcases de hx with rfl | hx
 ·rfl
 rcases nA hx with hx | hx
 ·exact eR (fun _ _=>rfl) x hx
 rcases de hx with rfl | hx
 ·rfl
 ·exact eR (fun _ _=>rfl) x hx
theorem IX {α:Type} {f:α->Value->Ob} (hf:∀ a h,(f a h).ko=true) {l:List α} {hs:List Value} (r:Nat->Nat):(List.zipWith f l hs).map (Ob.eC r)=List.zipWith f l hs:=by
 refine (List.map_congr_left fun x hx=>?_).trans (List.map_id _);have:=eR hf x hx
 cases x <;> first | rfl | cases this
theorem MY (x:Src) (hg:x.globals.length<=1048576) (ha:x.arrays.length<=1048576) (hf:x.fns.length<=1048576) (vB:∀ f∈x.fns,f.params.length<=1048576) (hn:x.nodes.length<=1048576) (wW:∀ n∈x.nodes,n.kids.length<=1048576) :
  GC prog 8 [.agg (av x)] [] fun g Δ=>∃ hg ha hf hn fs ns,ra x hg ha hf hn fs ns/\g=.agg [.v hg,.v ha,.v hf,.v hn]/\Δ=gI x hg ha hf hn fs ns:=by
 have h0:=Bu x.globals hg;have F:=MW x.arrays ha;have I:=VT x.fns hf vB;have h3:=Qp x.nodes hn wW;refine ah func8 ntmps8 ?_;refine cM [] h0 ?_;rintro _ _ ⟨_,⟨a0,c0,rfl⟩,rfl,rfl⟩;refine dH ?_;refine D ?_;refine cM [] F ?_;rintro _ _ ⟨_,⟨a1,c1,rfl⟩,rfl,rfl⟩;refine dH ?_;refine D ?_;refine cM [] I ?_;rintro _ _ ⟨_,fs,⟨a2,c2,rfl⟩,e1,e2,rfl,rfl⟩;rw [List.map_cons,IX (fun _ _=>rfl)];refine dH ?_;refine D ?_;refine cM [] h3 ?_;rintro _ _ ⟨_,ns,⟨a3,c3,rfl⟩,e3,e4,rfl,rfl⟩;rw [List.map_cons,IX (fun _ _=>rfl)];refine dH ?_;refine D ?_;refine ny ?_;refine LW 3 rfl dI rfl rfl rfl rfl ?_ ?_
 ·exact nP x _ _ _ _ fs ns
 ·exact ⟨_,_,_,_,fs,ns,⟨⟨_,_,rfl⟩,⟨_,_,rfl⟩,⟨_,_,rfl⟩,⟨_,_,rfl⟩,e1,e3,e2,e4⟩,rfl,rfl⟩
end Go.Xg
set_option maxHeartbeats 1000000
namespace Go.Xg
open GV (U)
open Go.RowKit Go.Xw Go.Proofs Tryz
open Go.Xp (Tok Nd T)
open Go.Sp
attribute [local irreducible] GW GL GO YG GC GA be bg
theorem uG {α:Type} {l:List α} {q:α->Bool} {k:Nat} {x:α} (hx:l[k]?=some x) (hf:(l.take k).all q=true) (hb:q x=true):(l.take (k+1)).all q=true:=by
 rw [cq,hx,all_append,hf];simp [hb]
def idxOf (xs:List ae) (s:ae):Int:=match xs.findIdx? (fun x=>s==x) with | some i=>(i:Int) | none => -1
theorem Ut (xs:List ae) (s:ae) (hl:xs.length<=1099511627776):GF prog 91 [strs xs,.v (sv s)] [] (.v (ii (idxOf xs s))) []:=by
 refine ah func91 ntmps91 ?_;refine GW.range (xs.map fun s=>[GV.v (sv s)]).length (fun k fr Γ=>fr=[strs xs,.v (sv s),U,U,U,U,strs xs,.v (ii ((xs.map fun s=>[GV.v (sv s)]).length:Int)),.v (ii (k:Nat)),U,U,U,U,U,U,U,U,U,U]/\Γ=[]/\((xs.take k).all fun x=>!(s==x))=true) ?_ (by simpa using hl) ?_ ?_ ?_
 ·exact kV
 ·exact jd
 ·rintro k _ _ ak ⟨rfl,rfl,hc⟩
  have ak:k < xs.length:=by simpa using ak
  have hx:xs[k]?=some xs[k]:=by simp [ak]
  have hr:(xs.map fun s=>[GV.v (sv s)])[k]?=some [.v (sv xs[k])]:=by simp [ak]
  cases hb:(s==xs[k]) with
  | true =>
   have hi:xs.findIdx? (fun x=>s==x)=some k:=by
    rw [List.findIdx?_eq_some_iff_getElem];refine ⟨ak,hb,fun j hj=>?_⟩;rw [gV] at hc;have:=hc xs[j] (by rw [List.mem_take_iff_getElem];exact ⟨j,by omega,rfl⟩);simpa using this
   unfold idxOf;rw [hi];generalize xs[k]=x at *;exact ay
  | false =>
   have sY:=uG (q:=fun x=>!(s==x)) hx hc (by rw [hb];rfl);generalize xs[k]=x at *;refine D ?_;exact ⟨rfl,rfl,_,_,Wk.aH ar,rfl,rfl,sY⟩
 ·rintro _ _ ⟨rfl,rfl,hc⟩;rw [kz (by simp)] at hc
  have hi:xs.findIdx? (fun x=>s==x)=none:=by
   rw [List.findIdx?_eq_none_iff];intro x hx;rw [gV] at hc;have:=hc x hx;simpa using this
  unfold idxOf;rw [hi];exact ay
theorem RC (xs:List ae) (s:ae):decide (0<=idxOf xs s)=xs.contains s:=by
 unfold idxOf
 cases h:xs.findIdx? (fun x=>s==x) with
 | some i =>
  rw [List.findIdx?_eq_some_iff_getElem] at h;obtain ⟨F,I,_⟩:=h
  have h3:s=xs[i]:=by simpa using I
  have:xs.contains s=true:=by rw [ij,h3];exact List.getElem_mem _
  rw [this];simp
 | none =>
  rw [List.findIdx?_eq_none_iff] at h
  have:xs.contains s=false:=by
   cases hc:xs.contains s with
   | false=>rfl
   | true=>have:=h s (ij.1 hc);simp at this
  rw [this];rfl
theorem iz (xs:List ae) (s:ae) (hl:xs.length<=1099511627776):GF prog 39 [strs xs,.v (sv s)] [] (.v (.bool (xs.contains s))) []:=by
 have hi:=Ut xs s hl;rw [<-RC];generalize idxOf xs s=i at *;refine ah func39 ntmps39 ?_;refine V [] hi ?_;exact aj
end Go.Xg
namespace Go.Xg
open GV (U)
open Go.RowKit Go.Xw Go.Proofs Tryz
open Go.Xp (Tok Nd T bH one levels Ar)
open Go.Sp
attribute [local irreducible] GW GL GO YG GC GA be bg
theorem Zb (p:Src) (hp:p.nodes.length<=1000000000000) (hk:∀ n∈p.nodes,n.kids.length<=1000000000000):∀ (f a d:Nat) (e:Int),d<=801->pU p.nodes f a d=some e->GF prog 149 [.agg (av p),.v (ii (a:Nat)),.v (ii (d:Nat))] [] (.v (ii e)) []:=by
 intro f
 induction f using Nat.strongRecOn with
 | _ f ih =>
 intro a d e hd h
 cases f with
 | zero=>simp [pU] at h
 | succ f =>
 rw [pU] at h;refine cL func149 ntmps149 ?_
 by_cases F:p.nodes.length<=a
 ·rw [ab (.inl F)] at h;cases h
  have dq:decide (((p.nodes.map ax).length:Int)<=(a:Int))=true:=by simpa using F
  exact ay
 have dq:decide (((p.nodes.map ax).length:Int)<=(a:Int))=false:=by simpa using F
 by_cases I:d > 800
 ·rw [ab (.inr I)] at h;cases h
  have rW:decide ((800:Int) < (d:Int))=true:=by simpa using by omega
  exact ay
 have rW:decide ((800:Int) < (d:Int))=false:=by simpa using by omega
 rw [L G] at h
 cases hn:p.nodes[a]? with
 | none=>rw [hn] at h;cases h
 | some n =>
 rw [hn] at h;simp only at h;have hr:=jL hn;have fH:=hk n (bA hn);refine D ?_
 refine GW.range (n.kids.map fun i=>[GV.v (ii i)]).length (fun k fr Γ=>∃ nx g,fr=[U,.v (ii (a:Nat)),.v (ii (d:Nat)),.loc 0 0,U,U,U,.v (ii nx),U,U,U,U,U,U,U,U,U,U,U,U,U,U,U,U,U,U,ints n.kids,.v (ii ((n.kids.map fun i=>[GV.v (ii i)]).length:Int)),.v (ii (k:Nat)),U,U,U,U,U,U,U,U,U,U,U,U,U,U,U] /\
   Γ=[.box 33 (av p)]/\0<=nx/\g<=f/\oQ p.nodes g (n.kids.drop k) nx d=some e) ?_ (by simp;omega) ?_ ?_ ?_
 ·exact ⟨_,_,Wk.aH ar,_,f,rfl,rfl,by omega,aE _,h⟩
 ·rintro k _ _ ⟨_,_,rfl,rfl,_⟩;exact dK
 ·rintro k _ _ ak ⟨nx,g,rfl,rfl,qM,hg,h⟩
  have ak:k < n.kids.length:=by simpa using ak
  have hx:n.kids[k]?=some n.kids[k]:=by simp [ak]
  rw [ju ak] at h;generalize n.kids[k]=x at *;have wY:=sG hx
  cases g with
  | zero=>simp [oQ] at h
  | succ g =>
  rw [oQ] at h
  by_cases hxn:x=nx
  ·subst hxn;rw [ab rfl] at h
   have hb:(x != x)=false:=by simp
   cases cj:pU p.nodes g x.toNat (d+1) with
   | none=>rw [cj] at h;cases h
   | some y =>
   rw [cj] at h;simp only at h;have Ao:=ih g G x.toNat (d+1) y G cj;rw [Int.toNat_of_nonneg qM] at Ao
   by_cases hy:y < 0
   ·rw [ab hy] at h;cases h
    have XK:decide (y < (0:Int))=true:=by simpa using hy
    refine D ?_;refine V [] Ao ?_;exact aj
   ·rw [L hy] at h
    have XK:decide (y < (0:Int))=false:=by simpa using hy
    refine D ?_;refine V [] Ao ?_;exact ⟨rfl,rfl,_,_,Wk.aH ar,_,g,rfl,rfl,by omega,by omega,h⟩
  ·rw [L hxn] at h;cases h
   have hb:(x != nx)=true:=by simpa using hxn
   exact ay
 ·rintro _ _ ⟨nx,g,rfl,rfl,qM,hg,h⟩;rw [bP,List.drop_length] at h
  have mz:nx=e:=by cases g <;> (rw [oQ] at h;cases h;rfl)
  subst mz;exact ay
theorem ZS (a n:Int) (s:ae) (ks:List Int) (l:List T) (hs:s.length<=1099511627776) (hl:l.length<=1099511627776) (ha:decide (a < 0)=false):GF prog 183 [.agg (cT (.mk ⟨1,a,n,s,ks⟩ l))] [] (.v (.bool (cv (.mk ⟨1,a,n,s,ks⟩ l)))) []:=by
 have how:cv (.mk ⟨1,a,n,s,ks⟩ l)=(decide ((0:Int)<=n)&&(decide (n<=2147483647)&&((s==[])&&((l.length:Int)==0)))):=by unfold cv own;rw [L (by show ¬ (decide (a < 0)=true);rw [ha];decide)];rfl
 rw [how];refine cL func183 ntmps183 ?_
 cases h0:decide ((0:Int)<=n) with
 | false =>
  exact ay
 | true =>
  cases F:decide (n<=2147483647) with
  | false =>
   exact ay
  | true =>
   cases I:(s==[]) with
   | false =>
    exact ay
   | true =>
    refine D ?_;refine cH ?_;exact ⟨by first | rfl | (rw [aX];rfl),rfl⟩
theorem ZT (a:Int) (s:ae) (ks:List Int) (l:List T) (hs:s.length<=1099511627776) (hl:l.length<=1099511627776) (ha:decide (a < 0)=false):GF prog 183 [.agg (cT (.mk ⟨2,a,0,s,ks⟩ l))] [] (.v (.bool (cv (.mk ⟨2,a,0,s,ks⟩ l)))) []:=by
 have how:cv (.mk ⟨2,a,0,s,ks⟩ l)=(bf s&&((l.length:Int)==0)):=by unfold cv own;rw [L (by show ¬ (decide (a < 0)=true);rw [ha];decide)];rfl
 rw [how];refine cL func183 ntmps183 ?_
 cases h0:bf s with
 | false =>
  refine D ?_;have hc:=ew s hs;rw [h0] at hc;refine V [] hc ?_;exact aj
 | true =>
  refine D ?_;have hc:=ew s hs;rw [h0] at hc;refine V [] hc ?_;refine cH ?_;exact ⟨by first | rfl | (rw [aX];rfl),rfl⟩
theorem ZU (a:Int) (s:ae) (ks:List Int) (l:List T) (hs:s.length<=1099511627776) (hl:l.length<=1099511627776) (ha:decide (a < 0)=false):GF prog 183 [.agg (cT (.mk ⟨3,a,0,s,ks⟩ l))] [] (.v (.bool (cv (.mk ⟨3,a,0,s,ks⟩ l)))) []:=by
 have how:cv (.mk ⟨3,a,0,s,ks⟩ l)=(bf s&&(((l.length:Int)==1)&&bI 1 0 l)):=by unfold cv own;rw [L (by show ¬ (decide (a < 0)=true);rw [ha];decide)];rfl
 rw [how];refine cL func183 ntmps183 ?_
 cases h0:bf s with
 | false =>
  refine D ?_;have hc:=ew s hs;rw [h0] at hc;refine V [] hc ?_;exact aj
 | true =>
  cases F:((l.length:Int)==1) with
  | false =>
   have dq:((((aQ l).length:Int)==1))=false:=by rw [<-aX l] at F;exact F
   refine D ?_;have hc:=ew s hs;rw [h0] at hc;refine V [] hc ?_;exact aj
  | true =>
   have dq:((((aQ l).length:Int)==1))=true:=by rw [<-aX l] at F;exact F
   refine D ?_;have hc:=ew s hs;rw [h0] at hc;refine V [] hc ?_;have hc:=gi (.mk ⟨3,a,0,s,ks⟩ l) 1 hl;refine V [] hc ?_;refine cH ?_;exact ⟨by first | rfl | (rw [aX];rfl),rfl⟩
theorem ZV (a:Int) (s:ae) (ks:List Int) (l:List T) (hs:s.length<=1099511627776) (hl:l.length<=1099511627776) (ha:decide (a < 0)=false):GF prog 183 [.agg (cT (.mk ⟨4,a,0,s,ks⟩ l))] [] (.v (.bool (cv (.mk ⟨4,a,0,s,ks⟩ l)))) []:=by
 have how:cv (.mk ⟨4,a,0,s,ks⟩ l)=(bf s&&bI l.length 0 l):=by unfold cv own;rw [L (by show ¬ (decide (a < 0)=true);rw [ha];decide)];rfl
 rw [how];refine cL func183 ntmps183 ?_
 cases h0:bf s with
 | false =>
  refine D ?_;have hc:=ew s hs;rw [h0] at hc;refine V [] hc ?_;exact aj
 | true =>
  refine D ?_;have hc:=ew s hs;rw [h0] at hc;refine V [] hc ?_;have hc:=gi (.mk ⟨4,a,0,s,ks⟩ l) (aQ l).length hl;refine V [] hc ?_;refine cH ?_;exact ⟨by first | rfl | (rw [aX];rfl),rfl⟩
theorem ZX (a:Int) (s:ae) (ks:List Int) (l:List T) (hs:s.length<=1099511627776) (hl:l.length<=1099511627776) (ha:decide (a < 0)=false):GF prog 183 [.agg (cT (.mk ⟨6,a,0,s,ks⟩ l))] [] (.v (.bool (cv (.mk ⟨6,a,0,s,ks⟩ l)))) []:=by
 have how:cv (.mk ⟨6,a,0,s,ks⟩ l)=(eT s&&(((l.length:Int)==2)&&bI 2 0 l)):=by unfold cv own;rw [L (by show ¬ (decide (a < 0)=true);rw [ha];decide)];rfl
 rw [how];refine cL func183 ntmps183 ?_
 cases h0:eT s with
 | false =>
  refine D ?_;have hc:=u6 s;rw [h0] at hc;refine V [] hc ?_;exact aj
 | true =>
  cases F:((l.length:Int)==2) with
  | false =>
   have dq:((((aQ l).length:Int)==2))=false:=by rw [<-aX l] at F;exact F
   refine D ?_;have hc:=u6 s;rw [h0] at hc;refine V [] hc ?_;exact aj
  | true =>
   have dq:((((aQ l).length:Int)==2))=true:=by rw [<-aX l] at F;exact F
   refine D ?_;have hc:=u6 s;rw [h0] at hc;refine V [] hc ?_;have hc:=gi (.mk ⟨6,a,0,s,ks⟩ l) 2 hl;refine V [] hc ?_;refine cH ?_;exact ⟨by first | rfl | (rw [aX];rfl),rfl⟩
theorem ZY (a:Int) (s:ae) (ks:List Int) (l:List T) (hs:s.length<=1099511627776) (hl:l.length<=1099511627776) (ha:decide (a < 0)=false):GF prog 183 [.agg (cT (.mk ⟨7,a,0,s,ks⟩ l))] [] (.v (.bool (cv (.mk ⟨7,a,0,s,ks⟩ l)))) []:=by
 have how:cv (.mk ⟨7,a,0,s,ks⟩ l)=(bf s&&(((l.length:Int)==1)&&bI 1 0 l)):=by unfold cv own;rw [L (by show ¬ (decide (a < 0)=true);rw [ha];decide)];rfl
 rw [how];refine cL func183 ntmps183 ?_
 cases h0:bf s with
 | false =>
  refine D ?_;have hc:=ew s hs;rw [h0] at hc;refine V [] hc ?_;exact aj
 | true =>
  cases F:((l.length:Int)==1) with
  | false =>
   have dq:((((aQ l).length:Int)==1))=false:=by rw [<-aX l] at F;exact F
   refine D ?_;have hc:=ew s hs;rw [h0] at hc;refine V [] hc ?_;exact aj
  | true =>
   have dq:((((aQ l).length:Int)==1))=true:=by rw [<-aX l] at F;exact F
   refine D ?_;have hc:=ew s hs;rw [h0] at hc;refine V [] hc ?_;have hc:=gi (.mk ⟨7,a,0,s,ks⟩ l) 1 hl;refine V [] hc ?_;refine cH ?_;exact ⟨by first | rfl | (rw [aX];rfl),rfl⟩
theorem ZZ (a:Int) (s:ae) (ks:List Int) (l:List T) (hs:s.length<=1099511627776) (hl:l.length<=1099511627776) (ha:decide (a < 0)=false):GF prog 183 [.agg (cT (.mk ⟨8,a,0,s,ks⟩ l))] [] (.v (.bool (cv (.mk ⟨8,a,0,s,ks⟩ l)))) []:=by
 have how:cv (.mk ⟨8,a,0,s,ks⟩ l)=(bf s&&(((l.length:Int)==2)&&bI 2 0 l)):=by unfold cv own;rw [L (by show ¬ (decide (a < 0)=true);rw [ha];decide)];rfl
 rw [how];refine cL func183 ntmps183 ?_
 cases h0:bf s with
 | false =>
  refine D ?_;have hc:=ew s hs;rw [h0] at hc;refine V [] hc ?_;exact aj
 | true =>
  cases F:((l.length:Int)==2) with
  | false =>
   have dq:((((aQ l).length:Int)==2))=false:=by rw [<-aX l] at F;exact F
   refine D ?_;have hc:=ew s hs;rw [h0] at hc;refine V [] hc ?_;exact aj
  | true =>
   have dq:((((aQ l).length:Int)==2))=true:=by rw [<-aX l] at F;exact F
   refine D ?_;have hc:=ew s hs;rw [h0] at hc;refine V [] hc ?_;have hc:=gi (.mk ⟨8,a,0,s,ks⟩ l) 2 hl;refine V [] hc ?_;refine cH ?_;exact ⟨by first | rfl | (rw [aX];rfl),rfl⟩
theorem Yl (a:Int) (s:ae) (ks:List Int) (l:List T) (hs:s.length<=1099511627776) (hl:l.length<=1099511627776) (ha:decide (a < 0)=false):GF prog 183 [.agg (cT (.mk ⟨10,a,0,s,ks⟩ l))] [] (.v (.bool (cv (.mk ⟨10,a,0,s,ks⟩ l)))) []:=by
 have how:cv (.mk ⟨10,a,0,s,ks⟩ l)=((s==[])&&(((l.length:Int)==2)&&bI 1 0 l)):=by unfold cv own;rw [L (by show ¬ (decide (a < 0)=true);rw [ha];decide)];rfl
 rw [how];refine cL func183 ntmps183 ?_
 cases h0:(s==[]) with
 | false =>
  exact ay
 | true =>
  cases F:((l.length:Int)==2) with
  | false =>
   have dq:((((aQ l).length:Int)==2))=false:=by rw [<-aX l] at F;exact F
   exact ay
  | true =>
   have dq:((((aQ l).length:Int)==2))=true:=by rw [<-aX l] at F;exact F
   refine D ?_;have hc:=gi (.mk ⟨10,a,0,s,ks⟩ l) 1 hl;refine V [] hc ?_;refine cH ?_;exact ⟨by first | rfl | (rw [aX];rfl),rfl⟩
theorem Ym (a:Int) (s:ae) (ks:List Int) (l:List T) (hs:s.length<=1099511627776) (hl:l.length<=1099511627776) (ha:decide (a < 0)=false):GF prog 183 [.agg (cT (.mk ⟨11,a,0,s,ks⟩ l))] [] (.v (.bool (cv (.mk ⟨11,a,0,s,ks⟩ l)))) []:=by
 have how:cv (.mk ⟨11,a,0,s,ks⟩ l)=((s==[])&&(((l.length:Int)==1)&&bI 1 0 l)):=by unfold cv own;rw [L (by show ¬ (decide (a < 0)=true);rw [ha];decide)];rfl
 rw [how];refine cL func183 ntmps183 ?_
 cases h0:(s==[]) with
 | false =>
  exact ay
 | true =>
  cases F:((l.length:Int)==1) with
  | false =>
   have dq:((((aQ l).length:Int)==1))=false:=by rw [<-aX l] at F;exact F
   exact ay
  | true =>
   have dq:((((aQ l).length:Int)==1))=true:=by rw [<-aX l] at F;exact F
   refine D ?_;have hc:=gi (.mk ⟨11,a,0,s,ks⟩ l) 1 hl;refine V [] hc ?_;refine cH ?_;exact ⟨by first | rfl | (rw [aX];rfl),rfl⟩
theorem Yn (a:Int) (s:ae) (ks:List Int) (l:List T) (hs:s.length<=1099511627776) (hl:l.length<=1099511627776) (ha:decide (a < 0)=false):GF prog 183 [.agg (cT (.mk ⟨12,a,0,s,ks⟩ l))] [] (.v (.bool (cv (.mk ⟨12,a,0,s,ks⟩ l)))) []:=by
 have how:cv (.mk ⟨12,a,0,s,ks⟩ l)=((s==[])&&(((l.length:Int)==1)&&bI 1 0 l)):=by unfold cv own;rw [L (by show ¬ (decide (a < 0)=true);rw [ha];decide)];rfl
 rw [how];refine cL func183 ntmps183 ?_
 cases h0:(s==[]) with
 | false =>
  exact ay
 | true =>
  cases F:((l.length:Int)==1) with
  | false =>
   have dq:((((aQ l).length:Int)==1))=false:=by rw [<-aX l] at F;exact F
   exact ay
  | true =>
   have dq:((((aQ l).length:Int)==1))=true:=by rw [<-aX l] at F;exact F
   refine D ?_;have hc:=gi (.mk ⟨12,a,0,s,ks⟩ l) 1 hl;refine V [] hc ?_;refine cH ?_;exact ⟨by first | rfl | (rw [aX];rfl),rfl⟩
theorem Yo (a:Int) (s:ae) (ks:List Int) (l:List T) (hs:s.length<=1099511627776) (hl:l.length<=1099511627776) (ha:decide (a < 0)=false):GF prog 183 [.agg (cT (.mk ⟨13,a,0,s,ks⟩ l))] [] (.v (.bool (cv (.mk ⟨13,a,0,s,ks⟩ l)))) []:=by
 have how:cv (.mk ⟨13,a,0,s,ks⟩ l)=(bf s&&(((l.length:Int)==1)&&bI 1 0 l)):=by unfold cv own;rw [L (by show ¬ (decide (a < 0)=true);rw [ha];decide)];rfl
 rw [how];refine cL func183 ntmps183 ?_
 cases h0:bf s with
 | false =>
  refine D ?_;have hc:=ew s hs;rw [h0] at hc;refine V [] hc ?_;exact aj
 | true =>
  cases F:((l.length:Int)==1) with
  | false =>
   have dq:((((aQ l).length:Int)==1))=false:=by rw [<-aX l] at F;exact F
   refine D ?_;have hc:=ew s hs;rw [h0] at hc;refine V [] hc ?_;exact aj
  | true =>
   have dq:((((aQ l).length:Int)==1))=true:=by rw [<-aX l] at F;exact F
   refine D ?_;have hc:=ew s hs;rw [h0] at hc;refine V [] hc ?_;have hc:=gi (.mk ⟨13,a,0,s,ks⟩ l) 1 hl;refine V [] hc ?_;refine cH ?_;exact ⟨by first | rfl | (rw [aX];rfl),rfl⟩
theorem ZW (a:Int) (s:ae) (ks:List Int) (l:List T) (hs:s.length<=1099511627776) (hl:l.length<=1099511627776) (ha:decide (a < 0)=false):GF prog 183 [.agg (cT (.mk ⟨5,a,0,s,ks⟩ l))] [] (.v (.bool (cv (.mk ⟨5,a,0,s,ks⟩ l)))) []:=by
 have how:cv (.mk ⟨5,a,0,s,ks⟩ l)=((s==[45] || s==[33] || s==[126])&&(((l.length:Int)==1)&&bI 1 0 l)):=by unfold cv own;rw [L (by show ¬ (decide (a < 0)=true);rw [ha];decide)];rfl
 rw [how];refine cL func183 ntmps183 ?_
 cases F:(s==[45]) with
 | true =>
  cases h4:((l.length:Int)==1) with
  | false =>
   have Oy:(((aQ l).length:Int)==1)=false:=by rw [<-aX l] at h4;exact h4
   exact ay
  | true =>
   have Oy:(((aQ l).length:Int)==1)=true:=by rw [<-aX l] at h4;exact h4
   refine D ?_;have hc:=gi (.mk ⟨5,a,0,s,ks⟩ l) 1 hl;refine V [] hc ?_;exact aj
 | false =>
  cases I:(s==[33]) with
  | true =>
   cases h4:((l.length:Int)==1) with
   | false =>
    have Oy:(((aQ l).length:Int)==1)=false:=by rw [<-aX l] at h4;exact h4
    exact ay
   | true =>
    have Oy:(((aQ l).length:Int)==1)=true:=by rw [<-aX l] at h4;exact h4
    refine D ?_;have hc:=gi (.mk ⟨5,a,0,s,ks⟩ l) 1 hl;refine V [] hc ?_;exact aj
  | false =>
   cases h3:(s==[126]) with
   | false =>
    exact ay
   | true =>
    cases h4:((l.length:Int)==1) with
    | false =>
     have Oy:(((aQ l).length:Int)==1)=false:=by rw [<-aX l] at h4;exact h4
     exact ay
    | true =>
     have Oy:(((aQ l).length:Int)==1)=true:=by rw [<-aX l] at h4;exact h4
     refine D ?_;have hc:=gi (.mk ⟨5,a,0,s,ks⟩ l) 1 hl;refine V [] hc ?_;exact aj
theorem Z0 (a:Int) (s:ae) (ks:List Int) (l:List T) (hs:s.length<=1099511627776) (hl:l.length<=1099511627776) (ha:decide (a < 0)=false):GF prog 183 [.agg (cT (.mk ⟨9,a,0,s,ks⟩ l))] [] (.v (.bool (cv (.mk ⟨9,a,0,s,ks⟩ l)))) []:=by
 have how:cv (.mk ⟨9,a,0,s,ks⟩ l)=((s==[])&&((((l.length:Int)==2) || ((l.length:Int)==3))&&bI 1 0 l)):=by unfold cv own;rw [L (by show ¬ (decide (a < 0)=true);rw [ha];decide)];rfl
 rw [how];refine cL func183 ntmps183 ?_
 cases h0:(s==[]) with
 | false =>
  exact ay
 | true =>
  cases F:((l.length:Int)==2) with
  | true =>
   have dq:(((aQ l).length:Int)==2)=true:=by rw [<-aX l] at F;exact F
   refine D ?_;have hc:=gi (.mk ⟨9,a,0,s,ks⟩ l) 1 hl;refine V [] hc ?_;exact aj
  | false =>
   have dq:(((aQ l).length:Int)==2)=false:=by rw [<-aX l] at F;exact F
   cases I:((l.length:Int)==3) with
   | true =>
    have rW:(((aQ l).length:Int)==3)=true:=by rw [<-aX l] at I;exact I
    refine D ?_;have hc:=gi (.mk ⟨9,a,0,s,ks⟩ l) 1 hl;refine V [] hc ?_;exact aj
   | false =>
    have rW:(((aQ l).length:Int)==3)=false:=by rw [<-aX l] at I;exact I
    exact ay
theorem Yp (a:Int) (s:ae) (ks:List Int) (l:List T) (hs:s.length<=1099511627776) (hl:l.length<=1099511627776) (ha:decide (a < 0)=false):GF prog 183 [.agg (cT (.mk ⟨14,a,0,s,ks⟩ l))] [] (.v (.bool (cv (.mk ⟨14,a,0,s,ks⟩ l)))) []:=by
 have how:cv (.mk ⟨14,a,0,s,ks⟩ l)=((l.all fun x=>iR x.n.kind)&&(s==[])):=by unfold cv own;rw [L (by show ¬ (decide (a < 0)=true);rw [ha];decide)];rfl
 rw [how];refine ah func183 ntmps183 ?_;refine GW.range (aQ l).length (fun k fr Γ=>∃ n,fr=[U,.loc 0 0,U,.loc 1 0,U,U,U,U,U,U,U,U,U,U,U,U,U,U,U,U,U,U,U,U,U,U,U,U,U,U,U,U,U,U,U,U,U,U,U,U,U,U,U,U,U,U,U,U,U,U,U,U,U,U,U,U,U,U,U,U,U,U,U,U,U,U,U,U,U,U,U,U,U,U,U,U,U,U,U,U,U,U,U,U,U,U,U,U,U,U,U,U,U,U,U,U,U,U,U,U,U,U,U,U,U,U,U,U,U,U,U,U,U,U,U,U,U,U,U,U,U,U,U,U,U,U,U,U,U,U,U,U,U,U,U,U,U,U,U,U,U,U,U,U,U,U,U,U,U,U,U,U,U,U,U,U,U,U,U,U,U,U,U,U,U,U,U,U,U,U,U,U,U,U,U,U,.sl 6 (aQ l),.v (ii ((aQ l).length:Int)),.v (ii (k:Nat)),U,U,U,U,U,U,U,U,U,U,U,U]/\Γ=[.box 65 (cT (.mk ⟨14,a,0,s,ks⟩ l)),.box 62 n]/\n=ax ⟨14,a,0,s,ks⟩/\((l.take k).all fun x=>iR x.n.kind)=true) ?_ (by rw [aX];exact hl) ?_ ?_ ?_
 ·exact ⟨_,_,Wk.aH ar,_,rfl,rfl,rfl,rfl⟩
 ·rintro k _ _ ⟨_,rfl,rfl,_⟩;exact dK
 ·rintro k _ _ hk ⟨_,rfl,rfl,rfl,hf⟩
  have hk:k < l.length:=by rw [aX] at hk;exact hk
  have hx:l[k]?=some l[k]:=by simp [hk]
  have hr:=df hx;generalize l[k]=x at *;have he:=Ji x.n.kind
  cases hb:iR x.n.kind with
  | true =>
   rw [hb] at he;refine D ?_;refine V [] he ?_;exact ⟨rfl,rfl,_,_,(Wk.cut (n:=2) (fq rfl) rfl).trans (Wk.aH ar),_,rfl,rfl,rfl,by rw [cq,hx,all_append,hf];simp only [Option.toList,all_cons,all_nil,hb];rfl⟩
  | false =>
   rw [hb] at he;refine D ?_;refine V [] he ?_;refine cH ?_
   have ha:(l.all fun x=>iR x.n.kind)=false:=by
    rw [all_eq_false];exact ⟨x,bA hx,by simp [hb]⟩
   rw [ha];exact ⟨rfl,rfl⟩
 ·rintro _ _ ⟨_,rfl,rfl,rfl,hf⟩
  have hf:(l.all fun x=>iR x.n.kind)=true:=by
   rw [kz (by rw [aX];omega)] at hf;exact hf
  rw [hf];exact ay
theorem Z4 (k a n:Int) (s:ae) (ks:List Int) (l:List T) (hk:k=1\/k=2\/k=3\/k=4\/k=5\/k=6\/k=7\/k=8\/k=9\/k=10\/k=11\/k=12\/k=13\/k=14\/True) (hx:¬ (k=1\/k=2\/k=3\/k=4\/k=5\/k=6\/k=7\/k=8\/k=9\/k=10\/k=11\/k=12\/k=13\/k=14)) (ha:decide (a < 0)=false) (hn:(n != 0)=false):GF prog 183 [.agg (cT (.mk ⟨k,a,n,s,ks⟩ l))] [] (.v (.bool (cv (.mk ⟨k,a,n,s,ks⟩ l)))) []:=by
 simp only [not_or] at hx;obtain ⟨F,I,h3,h4,h5,h6,h7,h8,h9,mF,qd,pO,eW,CK⟩:=hx
 have F:(k==1)=false:=by simpa using F
 have h1x:(k != 1)=true:=by simp only [bne,F];rfl
 have I:(k==2)=false:=by simpa using I
 have h3:(k==3)=false:=by simpa using h3
 have h4:(k==4)=false:=by simpa using h4
 have h5:(k==5)=false:=by simpa using h5
 have h6:(k==6)=false:=by simpa using h6
 have h7:(k==7)=false:=by simpa using h7
 have h8:(k==8)=false:=by simpa using h8
 have h9:(k==9)=false:=by simpa using h9
 have mF:(k==10)=false:=by simpa using mF
 have qd:(k==11)=false:=by simpa using qd
 have pO:(k==12)=false:=by simpa using pO
 have eW:(k==13)=false:=by simpa using eW
 have CK:(k==14)=false:=by simpa using CK
 have how:cv (.mk ⟨k,a,n,s,ks⟩ l)=false:=by
  show own ⟨k,a,n,s,ks⟩ _ _ _=_;simp [own,F,I,h3,h4,h5,h6,h7,h8,h9,mF,qd,pO,eW,CK]
 rw [how];refine ah func183 ntmps183 ?_;exact aj
theorem Z1 (k a n:Int) (s:ae) (ks:List Int) (l:List T) (ha:decide (a < 0)=true):GF prog 183 [.agg (cT (.mk ⟨k,a,n,s,ks⟩ l))] [] (.v (.bool (cv (.mk ⟨k,a,n,s,ks⟩ l)))) []:=by
 have how:cv (.mk ⟨k,a,n,s,ks⟩ l)=false:=by
  show own ⟨k,a,n,s,ks⟩ _ _ _=_;unfold own;rw [ab ha]
 rw [how];refine ah func183 ntmps183 ?_;exact aj
theorem Z3 (k a n:Int) (s:ae) (ks:List Int) (l:List T) (ha:decide (a < 0)=false) (hk:(k != 1)=true) (hn:(n != 0)=true):GF prog 183 [.agg (cT (.mk ⟨k,a,n,s,ks⟩ l))] [] (.v (.bool (cv (.mk ⟨k,a,n,s,ks⟩ l)))) []:=by
 have how:cv (.mk ⟨k,a,n,s,ks⟩ l)=false:=by
  show own ⟨k,a,n,s,ks⟩ _ _ _=_;unfold own;rw [L (by show ¬ (decide (a < 0)=true);rw [ha];decide),ab (by show ((k != 1)&&(n != 0))=true;rw [hk,hn];rfl)]
 rw [how];refine ah func183 ntmps183 ?_;exact aj
theorem RT (t:T) (hs:t.n.s.length<=1099511627776) (hl:t.kids.length<=1099511627776):GF prog 183 [.agg (cT t)] [] (.v (.bool (cv t))) []:=by
 obtain ⟨⟨k,a,n,s,ks⟩,l⟩:=t
 cases ha:decide (a < 0) with
 | true=>exact Z1 k a n s ks l ha
 | false =>
 by_cases vE:k=1
 ·subst vE;exact ZS a n s ks l hs hl ha
 by_cases hn:n=0
 ·subst hn
  by_cases h:k=1\/k=2\/k=3\/k=4\/k=5\/k=6\/k=7\/k=8\/k=9\/k=10\/k=11\/k=12\/k=13\/k=14
  ·rcases h with rfl | rfl | rfl | rfl | rfl | rfl | rfl | rfl | rfl | rfl | rfl | rfl | rfl | rfl
   ·exact absurd rfl vE
   ·exact ZT a s ks l hs hl ha
   ·exact ZU a s ks l hs hl ha
   ·exact ZV a s ks l hs hl ha
   ·exact ZW a s ks l hs hl ha
   ·exact ZX a s ks l hs hl ha
   ·exact ZY a s ks l hs hl ha
   ·exact ZZ a s ks l hs hl ha
   ·exact Z0 a s ks l hs hl ha
   ·exact Yl a s ks l hs hl ha
   ·exact Ym a s ks l hs hl ha
   ·exact Yn a s ks l hs hl ha
   ·exact Yo a s ks l hs hl ha
   ·exact Yp a s ks l hs hl ha
  ·exact Z4 k a 0 s ks l (by simp) h ha rfl
 ·exact Z3 k a n s ks l ha (by simpa using vE) (by simpa using hn)
theorem Nt (l:List T):cE l=l.all dP:=by
 induction l with
 | nil=>simp [cE]
 | cons a l ih=>simp [cE,ih]
theorem RP:∀ (sz:Nat) (t:T),SizeOf.sizeOf t<=sz->It t->GF prog 150 [.agg (cT t)] [] (.v (.bool (dP t))) []:=by
 intro sz
 induction sz with
 | zero=>intro t h _;cases t;simp at h
 | succ sz ih =>
 intro t dr kl;obtain ⟨n,l⟩:=t;have acr:=kl;rw [It] at kl;obtain ⟨hs,hl,hm⟩:=kl
 have how:dP (.mk n l)=(cE l&&cv (.mk n l)):=by rw [dP]
 rw [how];rw [Nt];refine ah func150 ntmps150 ?_;refine GW.range (aQ l).length (fun k fr Γ=>fr=[U,.loc 0 0,U,U,U,U,.sl 6 (aQ l),.v (ii ((aQ l).length:Int)),.v (ii (k:Nat)),U,U,U,U,U,U,U,U,U]/\Γ=[.box 65 (cT (.mk n l))]/\((l.take k).all dP)=true) ?_ (by rw [aX];exact hl) ?_ ?_ ?_
 ·exact kV
 ·exact jd
 ·rintro k _ _ hk ⟨rfl,rfl,hf⟩
  have hk:k < l.length:=by rw [aX] at hk;exact hk
  have hx:l[k]?=some l[k]:=by simp [hk]
  have D7:=bA hx;have ak:=List.sizeOf_lt_of_mem D7;have hr:=df hx;have he:=ih l[k] (by simp at dr;omega) (Iv hm D7);generalize l[k]=x at *
  cases hb:dP x with
  | true =>
   rw [hb] at he;refine D ?_;refine V [] he ?_;exact ⟨rfl,rfl,_,_,(Wk.cut (n:=1) (fq rfl) rfl).trans (Wk.aH ar),rfl,rfl,by rw [cq,hx,all_append,hf];simp only [Option.toList,all_cons,all_nil,hb];rfl⟩
  | false =>
   rw [hb] at he;refine D ?_;refine V [] he ?_;refine cH ?_
   have ha:(l.all dP)=false:=by
    rw [all_eq_false];exact ⟨x,bA hx,by simp [hb]⟩
   rw [ha];exact ⟨rfl,rfl⟩
 ·rintro _ _ ⟨rfl,rfl,hf⟩
  have hf:(l.all dP)=true:=by
   rw [kz (by rw [aX];omega)] at hf;exact hf
  rw [hf];refine D ?_;refine V [] (RT (.mk n l) hs hl) ?_;exact aj
theorem RO (t:T) (h:It t):GF prog 150 [.agg (cT t)] [] (.v (.bool (dP t))) []:=RP _ t (aE _) h
structure Dz (p:Src):Prop where
 globals:p.globals.length<=1000000000000/\∀ s∈p.globals,s.length<=1000000000000
 arrays:p.arrays.length<=1000000000000/\∀ a∈p.arrays,a.name.length<=1000000000000
 fns:p.fns.length<=1000000000000/\∀ f∈p.fns,f.name.length<=1000000000000/\f.params.length<=1000000000000/\∀ s∈f.params,s.length<=1000000000000
 nodes:p.nodes.length<=1000000000000/\∀ n∈p.nodes,n.s.length<=1000000000000/\n.kids.length<=1000000000000
theorem K9 {l:List ae} {i:Nat} {s:ae} (h:l[i]?=some s):(l.map fun s=>[GV.v (sv s)])[i]?=some [.v (sv s)]:=by rw [aP,h];rfl
theorem Ic {l:List Ar} {i:Nat} {s:Ar} (h:l[i]?=some s):(l.map az)[i]?=some (az s):=by rw [aP,h];rfl
theorem Ds {l:List Go.Sp.Fn} {i:Nat} {s:Go.Sp.Fn} (h:l[i]?=some s):(l.map au)[i]?=some (au s):=by rw [aP,h];rfl
theorem wC {α:Type} {l:List α} {q:α->Bool} {k:Nat} {x:α} (hx:l[k]?=some x) (hb:q x=false):l.all q=false:=by
 rw [all_eq_false];exact ⟨x,bA hx,by simp [hb]⟩
theorem Dc (p:Src) (hp:Dz p) (b:Bool) (h:pJ p=some b):GF prog 104 [.agg (av p)] [] (.v (.bool b)) []:=by
 unfold pJ at h;refine ah func104 ntmps104 ?_;refine GW.range (p.globals.map fun s=>[GV.v (sv s)]).length (fun k fr Γ=>fr=[U,.loc 0 0,U,.v (ii 0),U,U,U,U,U,U,U,U,U,U,U,strs p.globals,.v (ii ((p.globals.map fun s=>[GV.v (sv s)]).length:Int)),.v (ii (k:Nat)),U,U,U,U,U,U,U,U,U,U,U,U,U,U,U,U,U,U,U,U,U,U,U,U,U,U,U,U,U,U,U,U,U,U,U,U,U,U,U,U,U,U,U,U,U,U,U,U,U,U,U,U,U,U,U,U,U,U,U,U,U,U,U,U,U,U,U,U,U,U,U,U,U,U,U,U,U,U,U,U,U,U,U,U,U,U,U]/\Γ=[.box 33 (av p)]/\((p.globals.take k).all bf)=true) ?_ (by simpa using by have:=hp.globals.1;omega) ?_ ?_ ?_
 ·exact kV
 ·exact jd
 ·rintro k _ _ hk ⟨rfl,rfl,hf⟩
  have hk:k < p.globals.length:=by simpa using hk
  have hx:p.globals[k]?=some p.globals[k]:=by simp [hk]
  have hr:=K9 hx;have hl:=hp.globals.2 _ (bA hx);generalize p.globals[k]=x at *;have he:=ew x G
  cases hb:bf x with
  | true =>
   rw [hb] at he;refine D ?_;refine V [] he ?_;exact ⟨rfl,rfl,_,_,Wk.aH ar,rfl,rfl,uG hx hf hb⟩
  | false =>
   rw [hb] at he;rw [ab (show c8 p.globals=false from wC hx hb)] at h;cases h;refine D ?_;refine V [] he ?_;exact aj
 ·rintro _ _ ⟨rfl,rfl,hf⟩;rw [kz (by simp)] at hf;rw [L (by rw [show c8 p.globals=true from hf];decide)] at h;refine D ?_;refine GW.range (p.arrays.map az).length (fun k fr Γ=>fr=[U,.loc 0 0,U,.v (ii 0),U,U,U,U,U,U,U,U,U,U,U,U,U,U,U,U,U,U,U,U,U,U,.sl 2 (p.arrays.map az),.v (ii ((p.arrays.map az).length:Int)),.v (ii (k:Nat)),U,U,U,U,U,U,U,U,U,U,U,U,U,U,U,U,U,U,U,U,U,U,U,U,U,U,U,U,U,U,U,U,U,U,U,U,U,U,U,U,U,U,U,U,U,U,U,U,U,U,U,U,U,U,U,U,U,U,U,U,U,U,U,U,U,U,U,U,U,U,U,U,U,U,U,U]/\Γ=[.box 33 (av p)]/\((p.arrays.take k).all oP)=true) ?_ (by simpa using by have:=hp.arrays.1;omega) ?_ ?_ ?_
  ·exact kV
  ·exact jd
  ·rintro k _ _ hk ⟨rfl,rfl,hf⟩
   have hk:k < p.arrays.length:=by simpa using hk
   have hx:p.arrays[k]?=some p.arrays[k]:=by simp [hk]
   have hr:=Ic hx;have hl:=hp.arrays.2 _ (bA hx);generalize p.arrays[k]=x at *;have he:=ew x.name G
   cases hb:bf x.name with
   | false =>
    rw [hb] at he;rw [ab (wC hx (by simp [oP,hb]))] at h;cases h;refine D ?_;refine V [] he ?_;exact aj
   | true =>
    rw [hb] at he
    cases F:decide (x.size < 0) with
    | true =>
     rw [ab (wC hx (by simp only [oP,hb,F];rfl))] at h;cases h;refine D ?_;refine V [] he ?_;exact aj
    | false =>
     cases I:decide (2147483647 < x.size) with
     | true =>
      rw [ab (wC hx (by simp only [oP,hb,F,I];rfl))] at h;cases h;refine D ?_;refine V [] he ?_;exact aj
     | false =>
      refine D ?_;refine V [] he ?_;exact ⟨rfl,rfl,_,_,(Wk.cut (n:=1) (fq rfl) rfl).trans (Wk.aH ar),rfl,rfl,uG hx hf (by simp only [oP,hb,F,I];rfl)⟩
  ·rintro _ _ ⟨rfl,rfl,hf⟩;rw [kz (by simp)] at hf;rw [L (by rw [hf];decide)] at h;refine D ?_;refine GW.range (p.fns.map au).length (fun k fr Γ=>∃ nx,fr=[U,.loc 0 0,U,.v (ii nx),U,U,U,U,U,U,U,U,U,U,U,U,U,U,U,U,U,U,U,U,U,U,U,U,U,U,U,U,U,U,U,U,U,U,U,U,U,U,U,U,U,U,U,U,.sl 3 (p.fns.map au),.v (ii ((p.fns.map au).length:Int)),.v (ii (k:Nat)),U,U,U,U,U,U,U,U,U,U,U,U,U,U,U,U,U,U,U,U,U,U,U,U,U,U,U,U,U,U,U,U,U,U,U,U,U,U,U,U,U,U,U,U,U,U,U,U,U,U,U,U,U,U]/\Γ=[.box 33 (av p)]/\0<=nx/\(match iF p.nodes (p.fns.drop k) nx with | none=>none | some none=>some false | some (some next)=>some (next==(p.nodes.length:Int)&&decide (next<=800)))=some b) ?_ (by simpa using by have:=hp.fns.1;omega) ?_ ?_ ?_
   ·exact ⟨_,_,Wk.aH ar,_,rfl,rfl,Int.le_refl _,h⟩
   ·rintro k _ _ ⟨_,rfl,rfl,_⟩;exact dK
   ·clear h hf;rintro k _ _ hk ⟨nx,rfl,rfl,qM,h⟩
    have hk:k < p.fns.length:=by simpa using hk
    have hx:p.fns[k]?=some p.fns[k]:=by simp [hk]
    have hr:=Ds hx;have hl:=hp.fns.2 _ (bA hx);rw [ju hk,iF] at h;generalize p.fns[k]=x at *
    cases he:pU p.nodes (fN p.nodes) nx.toNat 0 with
    | none=>rw [he] at h;cases h
    | some e =>
    rw [he] at h;simp only at h;have xU:=Zb p hp.nodes.1 (fun n hn=>(hp.nodes.2 n hn).2) _ _ 0 _ G he;rw [Int.toNat_of_nonneg qM] at xU;have da:=ew x.name G
    by_cases F:x.body=nx
    ·have dq:(x.body != nx)=false:=by simpa using F
     cases hb:bf x.name with
     | false =>
      rw [hb] at da;rw [ab (.inr (.inl hb))] at h;cases h;refine D ?_;refine V [] xU ?_;refine V [] da ?_;exact aj
     | true =>
      rw [hb] at da
      by_cases I:e < 0
      ·have rW:decide (e < 0)=true:=by simpa using I
       rw [ab (.inr (.inr I))] at h;cases h;refine D ?_;refine V [] xU ?_;refine V [] da ?_;exact aj
      ·have rW:decide (e < 0)=false:=by simpa using I
       rw [L (by rw [hb];simp [F,I])] at h;refine D ?_;refine V [] xU ?_;refine V [] da ?_;refine GW.range (x.params.map fun s=>[GV.v (sv s)]).length (fun j fr Γ=>fr=[U,.loc 0 0,U,.v (ii nx),U,U,U,U,U,.loc 1 0,.v (ii e),U,U,U,U,U,U,U,U,U,U,U,U,U,U,U,U,U,U,U,U,U,U,U,U,U,U,U,U,U,U,U,U,U,U,U,U,U,.sl 3 (p.fns.map au),.v (ii ((p.fns.map au).length:Int)),.v (ii (k:Nat)),U,U,U,U,U,U,U,U,U,U,U,U,U,U,U,U,U,U,U,U,U,strs x.params,.v (ii ((x.params.map fun s=>[GV.v (sv s)]).length:Int)),.v (ii (j:Nat)),U,U,U,U,U,U,U,U,U,U,U,U,U,U,U,U,U,U,U,U,U,U,U,U,U,U,U,U,U,U]/\Γ=[.box 33 (av p),.box 58 (au x)]/\((x.params.take j).all bf)=true) ?_ (by simpa using by omega) ?_ ?_ ?_
       ·exact kV
       ·exact jd
       ·rintro j _ _ hj ⟨rfl,rfl,hf⟩
        have hj:j < x.params.length:=by simpa using hj
        have ua:x.params[j]?=some x.params[j]:=by simp [hj]
        have TN:=K9 ua;have iD:=hl.2.2 _ (bA ua);generalize x.params[j]=y at *;have b9:=ew y G
        cases hb:bf y with
        | true =>
         rw [hb] at b9;refine D ?_;refine V [] b9 ?_;exact ⟨rfl,rfl,_,_,Wk.aH ar,rfl,rfl,uG ua hf hb⟩
        | false =>
         rw [hb] at b9;rw [ab (show c8 x.params=false from wC ua hb)] at h;cases h;refine D ?_;refine V [] b9 ?_;exact aj
       ·rintro _ _ ⟨rfl,rfl,hf⟩;rw [kz (by simp)] at hf;rw [L (by rw [show c8 x.params=true from hf];decide)] at h
        cases hs:sub p.nodes (fN p.nodes) nx.toNat with
        | none=>rw [hs] at h;cases h
        | some t =>
        rw [hs] at h;simp only at h;have rv:=Gh p (fun n hn=>(hp.nodes.2 n hn).2) _ _ _ hs;rw [Int.toNat_of_nonneg qM] at rv;have aY:=RO t ((YJ (fun n hn=>by have:=hp.nodes.2 n hn;omega) _).1 _ _ hs)
        by_cases h3:t.n.kind=14
        ·have lF:(t.n.kind != 14)=false:=by simpa using h3
         cases hb:dP t with
         | false =>
          rw [hb] at aY;rw [ab (.inr hb)] at h;cases h;refine D ?_;refine V [] rv ?_;refine V [] aY ?_;exact aj
         | true =>
          rw [hb] at aY;rw [L (by rw [hb];simp [h3])] at h;refine D ?_;refine V [] rv ?_;refine V [] aY ?_;exact ⟨rfl,rfl,_,_,(Wk.cut (n:=1) (fq rfl) rfl).trans (Wk.aH ar),_,rfl,rfl,by omega,h⟩
        ·have lF:(t.n.kind != 14)=true:=by simpa using h3
         rw [ab (.inl h3)] at h;cases h;refine D ?_;refine V [] rv ?_;exact aj
    ·have dq:(x.body != nx)=true:=by simpa using F
     rw [ab (.inl F)] at h;cases h;refine D ?_;refine V [] xU ?_;exact aj
   ·clear h hf;rintro _ _ ⟨nx,rfl,rfl,qM,h⟩;rw [bP,List.drop_length,iF] at h;simp only at h;cases h
    cases F:(nx==(p.nodes.length:Int)) with
    | false =>
     have dq:(nx==((p.nodes.map ax).length:Int))=false:=by rw [bP];exact F
     exact ay
    | true =>
     have dq:(nx==((p.nodes.map ax).length:Int))=true:=by rw [bP];exact F
     exact ay
def ot (k:Int) (s:ae):Int:=if k=6 then (match levels.findIdx? (fun l=>l.contains s) with | some i=>(i:Int) | none => -1) else 9
theorem Mj (t:T):GF prog 260 [.agg (cT t)] [] (.v (.int .i64 (ot t.n.kind t.n.s))) []:=by
 refine cL func260 ntmps260 ?_
 by_cases h6:t.n.kind=6
 ·have h6':(t.n.kind != 6)=false:=by simpa using h6
  unfold ot;rw [ab h6];refine D ?_;refine V [] kY ?_;refine GW.range (levels.map fun l=>[strs l]).length (fun k fr Γ=>fr=[U,.loc 0 0,U,U,U,U,U,U,U,U,U,.sl 1 (levels.map fun l=>[strs l]),.v (ii ((levels.map fun l=>[strs l]).length:Int)),.v (ii (k:Nat)),U,U,U,U,U,U,U,U,U,U,U]/\Γ=[.box 65 (cT t)]/\((levels.take k).any fun l=>l.contains t.n.s)=false) ?_ aU ?_ ?_ ?_
  ·exact kV
  ·exact jd
  ·rintro k _ _ hk ⟨rfl,rfl,hf⟩
   have hk:k < levels.length:=by simpa using hk
   have hx:levels[k]?=some levels[k]:=by simp [hk]
   have hr:(levels.map fun l=>[strs l])[k]?=some [strs levels[k]]:=by simp [hk]
   have Bd:levels[k].length<=1099511627776:=by
    have:∀ l∈levels,l.length<=1099511627776:=by decide
    exact this _ (List.getElem_mem hk)
   have A5:levels[k].contains t.n.s=true->levels.findIdx? (fun l=>l.contains t.n.s)=some k:=by
    intro hc;rw [List.findIdx?_eq_some_iff_getElem];refine ⟨hk,hc,fun j hj=>?_⟩;rw [List.any_eq_false] at hf;refine hf _ ?_;rw [List.mem_take_iff_getElem];exact ⟨j,by omega,rfl⟩
   generalize levels[k]=x at *;have hh:=iG x t.n.s Bd
   cases hb:x.contains t.n.s with
   | true =>
    rw [hb] at hh;rw [A5 hb];refine D ?_;refine V [] hh ?_;exact aj
   | false =>
    rw [hb] at hh;refine D ?_;refine V [] hh ?_;exact ⟨rfl,rfl,_,_,Wk.aH ar,rfl,rfl,by rw [cq,hx,List.any_append,hf];simp only [Option.toList,List.any_cons,List.any_nil,hb];rfl⟩
  ·rintro _ _ ⟨rfl,rfl,hf⟩;rw [kz (by simp)] at hf
   have hn:levels.findIdx? (fun l=>l.contains t.n.s)=none:=by
    rw [List.findIdx?_eq_none_iff];intro x hx;rw [List.any_eq_false] at hf;simpa using hf x hx
   rw [hn];exact ay
 ·have h6':(t.n.kind != 6)=true:=by simpa using h6
  unfold ot;rw [L h6];refine D ?_;refine V [] kY ?_;exact aj
end Go.Xg
namespace Go.Xg
open Go.RowKit Go.Xw Go.Proofs Tryz
open Go.Xp (Tok Nd T bH one levels Ar AJ dj qB)
open Go.Sp
attribute [local irreducible] GW GL GO YG GC GA be bg
theorem Uu (n:Int):GF prog 285 [.v (ii n)] [] (.v (ii (n % 4294967296))) []:=by
 refine ah func285 ntmps285 ?_;exact aj
theorem V1 (n:Int):GF prog 275 [.v (ii n)] [] (.v (ii (AJ n))) []:=by
 unfold AJ
 have hb:0<=n % 4294967296/\n % 4294967296 < 4294967296:=by omega
 have hp:=Uu n;generalize n % 4294967296=m at *;refine cL func275 ntmps275 ?_
 by_cases h:m > 2147483647
 ·have h':decide ((2147483647:Int) < m)=true:=by simpa using h
  rw [ab h];refine D ?_;refine V [] hp ?_;exact aj
 ·have h':decide ((2147483647:Int) < m)=false:=by simpa using h
  rw [L h];refine D ?_;refine V [] hp ?_;exact aj
theorem zQ (k:Nat) (h:k<=57):[[GV.v (.int .u8 (k:Int))]]=[UInt8.ofNat k].map fun c=>[GV.v (.int .u8 (c.toNat:Int))]:=by
 have:(UInt8.ofNat k).toNat=k:=by simp;omega
 simp [this]
theorem Jf (n:Nat) (hn:n<=1099511627776):GF prog 276 [.v (ii (n:Int))] [] (.v (sv (dj n))) []:=by
 induction n using Nat.strongRecOn with
 | _ n ih =>
 unfold dj;refine cL func276 ntmps276 ?_
 by_cases h:n < 10
 ·have h':decide ((n:Int) < 10)=true:=by simpa using by omega
  have hw:=zQ (48+n) G;rw [Int.natCast_add] at hw;rw [dif_pos h];refine D ?_;refine cD ?_;exact ay
 ·have h':decide ((n:Int) < 10)=false:=by simpa using by omega
  rw [dif_neg h];have hc:=ih (n / 10) G G;have hl:=qB (n / 10);have hw:=zQ (48+n % 10) G;rw [Int.natCast_add] at hw;refine D ?_;refine aL (.q 0 (.q 1 (aD 3 4 (.f 2 (.a 7 (aD 8 3 .nil)) 7 (.q 8 (.a 2 (.q 9 (.q 10 .nil)))))))) ?_;refine ao ?_;refine GO.fork ?_ ?_
  ·refine aI [] hc ?_;refine dC ?_;refine ao ?_;exact ay
  ·refine dC ?_;refine ao ?_;refine aI [] hc ?_;exact ay
end Go.Xg
namespace Go.Xg
open Go.RowKit Go.Xw Go.Proofs Tryz
open Go.Xp (Tok Nd T bH one levels Ar AJ dj qB E S er aV wt fG rV eQ bX)
open Go.Sp
attribute [local irreducible] GW GL GO YG GC GA be bg
theorem fg {nd:Nd} {l l':List T} {k v:Int} {s:ae} (h:er (.mk nd l)=.mk ⟨k,0,v,s,[]⟩ l'):nd.kind=k/\nd.n=v/\nd.s=s/\aV l=l':=by
 rw [er] at h
 injection h with F I
 injection F with a b c d e
 exact ⟨a,c,d,I⟩
theorem xN {l:List T} {x:T} (h:aV l=[x]):∃ t,l=[t]/\er t=x:=by
 match l,h with
 | [t],h=>rw [aV,aV] at h;injection h with F;exact ⟨t,rfl,F⟩
 | [],h=>rw [aV] at h;cases h
 | t::u::r,h=>rw [aV,aV] at h;injection h with F I;cases I
theorem DW {l:List T} {x y:T} (h:aV l=[x,y]):∃ t u,l=[t,u]/\er t=x/\er u=y:=by
 match l,h with
 | t::r,h =>
  rw [aV] at h;injection h with F I
  obtain ⟨u,rfl,h3⟩:=xN I;exact ⟨t,u,rfl,F,h3⟩
 | [],h=>rw [aV] at h;cases h
theorem aai {l:List T} {x y z:T} (h:aV l=[x,y,z]):∃ t u w,l=[t,u,w]/\er t=x/\er u=y/\er w=z:=by
 match l,h with
 | t::r,h =>
  rw [aV] at h;injection h with F I
  obtain ⟨u,w,rfl,h3,h4⟩:=DW I;exact ⟨t,u,w,rfl,F,h3,h4⟩
 | [],h=>rw [aV] at h;cases h
theorem SK {a:E} (h:a.ok=true) {t:T} (ht:er t=a.tree):ot t.n.kind t.n.s=(a.lv:Int):=by
 obtain ⟨nd,l⟩:=t
 cases a with
 | bin s a b =>
  obtain ⟨F,_,I,_⟩:=fg ht;simp only [E.ok,aC] at h;have h9:=(Go.Xp.qP h.1.1).1;simp only [T.n,F,I,ot,ab,E.lv];unfold eQ at h9 |-
  cases hf:levels.findIdx? (fun l=>l.contains s) with
  | none=>rw [hf] at h9;exact absurd h9 aU
  | some i=>rfl
 | num n=>obtain ⟨F,_⟩:=fg ht;simp only [T.n,F,ot];rfl
 | name n=>obtain ⟨F,_⟩:=fg ht;simp only [T.n,F,ot];rfl
 | at_ s a=>obtain ⟨F,_⟩:=fg ht;simp only [T.n,F,ot];rfl
 | call s a=>obtain ⟨F,_⟩:=fg ht;simp only [T.n,F,ot];rfl
 | un s a=>obtain ⟨F,_⟩:=fg ht;simp only [T.n,F,ot];rfl
theorem sJ {a:E} (h:a.ok=true) {t:T} (ht:er t=a.tree):GF prog 260 [.agg (cT t)] [] (.v (ii (a.lv:Int))) []:=by
 have:=Mj t;rw [SK h ht] at this;exact this
theorem EL (n:Int) (h:0<=n/\n<=2147483647):GF prog 261 [.v (ii n)] [] (.v (sv (dj n.toNat))) []:=by
 have hw:=V1 n
 have qj:AJ n=n:=by unfold AJ;rw [show n % 4294967296=n by omega,L G]
 rw [qj] at hw;have hd:=Jf n.toNat G;rw [Int.toNat_of_nonneg h.1] at hd
 have h':decide (n < 0)=false:=by simpa using h.1
 refine ah func261 ntmps261 ?_;refine V [] hw ?_;refine V [] hd ?_;exact aj
abbrev lim:Nat:=1000000000000
def tg (a:E):Prop:=∀ (t:T) (k:Nat),a.ok=true->er t=a.tree->wt a.tree<=lim->¬ a.lv < k->GF prog 227 [.agg (cT t),.v (ii (k:Int))] [] (.v (sv a.bF)) []
def pZ (a:E):Prop:=∀ (t:T) (k:Nat),a.ok=true->er t=a.tree->wt a.tree<=lim->GF prog 227 [.agg (cT t),.v (ii (k:Int))] [] (.v (sv (rV a.lv k a.bF))) []
theorem tg.p {a:E} (C:tg a):pZ a:=by
 intro t k ho ht hb;unfold rV
 by_cases h:a.lv < k
 ·rw [ab h]
  have h':decide ((a.lv:Int) < (k:Int))=true:=by simpa using h
  have hl:=(E.len a ho).1;have h0:=C t 0 ho ht hb G;have TB:=hb;unfold lim at TB;generalize a.bF=x at *;refine ah func227 ntmps227 ?_;refine V [] (sJ ho ht) ?_;refine V [] h0 ?_;exact aj
 ·rw [L h];exact C t k ho ht hb h
theorem Pz (n:Int):tg (.num n):=by
 intro t k ho ht hb h
 have h':decide (((E.num n).lv:Int) < (k:Int))=false:=by simpa using h
 have hg:=sJ ho ht;obtain ⟨⟨kk,aa,vv,ss,ks⟩,l⟩:=t;obtain ⟨F,I,h3,hl⟩:=fg ht;simp only at F I h3;subst F I h3;simp only [E.ok,aC] at ho;have hn:=EL vv ⟨nW ho.1,nW ho.2⟩;rw [E.bF];simp only [cT,T.n,T.kids] at hg |-;refine ah func227 ntmps227 ?_;refine V [] hg ?_;refine V [] hn ?_;exact aj
theorem Mo (s:ae):tg (.name s):=by
 intro t k ho ht hb h
 have h':decide (((E.name s).lv:Int) < (k:Int))=false:=by simpa using h
 have hg:=sJ ho ht;obtain ⟨⟨kk,aa,vv,ss,ks⟩,l⟩:=t;obtain ⟨F,I,h3,hl⟩:=fg ht;simp only at F I h3;subst F I h3;rw [E.bF];simp only [cT,T.n,T.kids] at hg |-;refine ah func227 ntmps227 ?_;refine V [] hg ?_;exact aj
theorem RZ (s:ae) (a:E) (C:pZ a):tg (.at_ s a):=by
 intro t k ho ht hb h
 have h':decide (((E.at_ s a).lv:Int) < (k:Int))=false:=by simpa using h
 have hg:=sJ ho ht;obtain ⟨⟨kk,aa,vv,ss,ks⟩,l⟩:=t;obtain ⟨F,I,h3,hl⟩:=fg ht;simp only at F I h3;subst F I h3;obtain ⟨x,rfl,hx⟩:=xN hl;simp only [E.ok,aC] at ho;rw [E.tree,wt] at hb;simp only [fG,lim] at hb;have hc:=C x 0 ho.2 hx (by unfold lim;omega);unfold rV at hc;rw [L G] at hc;have hle:=(E.len a ho.2).1;have hr:(aQ [x])[0]?=some (cT x):=df rfl;rw [E.bF];generalize a.bF=y at *;simp only [cT,T.n,T.kids] at hg |-;refine ah func227 ntmps227 ?_;refine V [] hg ?_;refine aL (aD 0 8 (.a 8 (aD 9 3 .nil))) ?_;refine ao ?_;refine aI [] hc ?_;exact ay
theorem R0 (s:ae) (a:E) (C:pZ a):tg (.un s a):=by
 intro t k ho ht hb h
 have h':decide (((E.un s a).lv:Int) < (k:Int))=false:=by simpa using h
 have hg:=sJ ho ht;obtain ⟨⟨kk,aa,vv,ss,ks⟩,l⟩:=t;obtain ⟨F,I,h3,hl⟩:=fg ht;simp only at F I h3;subst F I h3;obtain ⟨x,rfl,hx⟩:=xN hl;simp only [E.ok,aC] at ho;rw [E.tree,wt] at hb;simp only [fG,lim] at hb;have hc:=C x 9 ho.2 hx (by unfold lim;omega);have hle:=(E.len a ho.2).1;have BR:=Go.Xp.uo a.lv 9 a.bF;have hr:(aQ [x])[0]?=some (cT x):=df rfl;rw [E.bF];generalize rV a.lv 9 a.bF=y at *;simp only [cT,T.n,T.kids] at hg |-;refine ah func227 ntmps227 ?_;refine V [] hg ?_;refine aL (aD 0 8 (.a 8 (.q 9 (.a 10 (.q 11 (.q 12 .nil)))))) ?_;refine ao ?_;refine aI [] kY ?_;refine aI [] hc ?_;exact ay
theorem Py (s:ae) (a b:E) (Ca:pZ a) (Cb:pZ b):tg (.bin s a b):=by
 intro t k ho ht hb h
 have h':decide (((E.bin s a b).lv:Int) < (k:Int))=false:=by simpa using h
 have hg:=sJ ho ht;obtain ⟨⟨kk,aa,vv,ss,ks⟩,l⟩:=t;obtain ⟨F,I,h3,hl⟩:=fg ht;simp only at F I h3;subst F I h3;obtain ⟨x,y,rfl,hx,hy⟩:=DW hl;simp only [E.ok,aC] at ho;rw [E.tree,wt] at hb;simp only [fG,lim] at hb;have W7:=Ca x (eQ ss) ho.1.2 hx (by unfold lim;omega);have A3:=Cb y (eQ ss+1) ho.2 hy (by unfold lim;omega);have Kl:=(Go.Xp.qP ho.1.1).1;have hle:=(E.len a ho.1.2).1;have BR:=Go.Xp.uo a.lv (eQ ss) a.bF;have abc:=(E.len b ho.2).1;have ab7:=Go.Xp.uo b.lv (eQ ss+1) b.bF;have hr:(aQ [x,y])[0]?=some (cT x):=df rfl;have eg:(aQ [x,y])[1]?=some (cT y):=df rfl;rw [E.bF];simp only [E.lv] at hg h';generalize rV a.lv (eQ ss) a.bF=u at *;generalize rV b.lv (eQ ss+1) b.bF=w at *;simp only [cT,T.n,T.kids] at hg |-;refine ah func227 ntmps227 ?_;refine V [] hg ?_;refine V [] hg ?_;refine aL (aD 0 5 (aD 7 3 (aD 12 6 (.a 5 (.q 6 (.q 10 (.q 11 (.a 18 (.q 19 (.q 20 .nil)))))))))) ?_;refine ao ?_;refine aI [] W7 ?_;refine aI [] A3 ?_;exact ay
end Go.Xg
namespace Go.Xg
open GV (U)
open Go.RowKit Go.Xw Go.Proofs Tryz
open Go.Xp (Tok Nd T bH one levels Ar dj E S er aV wt fG rV eQ bX Da x5)
open Go.Sp
attribute [local irreducible] GW GL GO YG GC GA be bg
def LG (b:Bool) (a:E):Prop:=∀ t,er t=a.tree->GF prog 184 [.agg (cT t),.v (.bool b)] [] (.v (sv (a.out b))) []
theorem NV:∀ {ts:List T} {es:List E} (h:aV ts=E.trees es),ts.length=es.length/\∀ (k:Nat) t a,ts[k]?=some t->es[k]?=some a->er t=a.tree
 | [],[],_=>⟨rfl,fun k t a h=>by simp at h⟩
 | [],a::l,h=>by rw [aV,E.trees] at h;cases h
 | t::r,[],h=>by rw [aV,E.trees] at h;cases h
 | t::r,a::l,h=>by
  rw [aV,E.trees] at h
  injection h with F I
  obtain ⟨h3,h4⟩:=NV I;refine ⟨by simp [h3],fun k t' a' ht ha=>?_⟩
  cases k with
  | zero=>cases ht;cases ha;exact F
  | succ k=>exact h4 k t' a' (by simpa using ht) (by simpa using ha)
theorem Ft (b:Bool) (es:List E) (C:∀ a∈es,LG b a) (ts:List T) (tZ:aV ts=E.trees es) (hb:(bX (es.map (E.out b))).length<=lim) (hn:es.length<=lim) :
  GF prog 262 [.sl 6 (aQ ts),.v (.bool b)] [] (.v (sv (bX (es.map (E.out b))))) []:=by
 obtain ⟨hlen,oE⟩:=NV tZ;unfold lim at hb hn;refine ah func262 ntmps262 ?_;refine GW.range (aQ ts).length (fun k fr Γ=>∃ y,fr=[U,.v (.bool b),U,U,U,.v (sv y),U,U,.sl 6 (aQ ts),.v (ii ((aQ ts).length:Int)),.v (ii (k:Nat)),U,U,U,U,U,U,U,U,U,U,U,U,U,U,U]/\Γ=[]/\y=bX ((es.map (E.out b)).take k)) ?_ (by rw [aX];omega) ?_ ?_ ?_
 ·exact ⟨_,_,Wk.aH ar,[],rfl,rfl,by simp [bX]⟩
 ·rintro k _ _ ⟨y,rfl,rfl,_⟩;exact dK
 ·rintro k _ _ hk ⟨y,rfl,rfl,hy⟩
  have hk:k < es.length:=by rw [aX,hlen] at hk;exact hk
  have yK:k < ts.length:=by omega
  have hx:es[k]?=some es[k]:=by simp [hk]
  have ht:ts[k]?=some ts[k]:=by simp [yK]
  have he:=oE k _ _ ht hx;have hr:=df ht;have hc:=C _ (bA hx) _ he;have wV:=x5 (es.map (E.out b)) (k+1);have aa6:=x5 (es.map (E.out b)) k
  have jU:(es.map (E.out b)).take (k+1)=(es.map (E.out b)).take k++[es[k].out b]:=by
   rw [cq,aP,hx];rfl
  rw [jU] at wV;generalize ts[k]=t at *;generalize es[k]=a at *;generalize a.out b=x at *
  by_cases h0:k=0
  ·subst h0
   have uN:decide ((0:Int) < ((0:Nat):Int))=false:=by decide
   have hj:bX ((es.map (E.out b)).take 0++[x])=[]++x:=by simp [bX]
   have TI:bX ((es.map (E.out b)).take 0)=[]:=by simp [bX]
   rw [TI] at hy;subst hy;rw [hj] at wV
   have wV:x.length<=(bX (es.map (E.out b))).length:=by simpa using wV
   refine D ?_;refine V [] hc ?_;exact ⟨rfl,rfl,_,_,(Wk.cut (n:=0) (fq rfl) rfl).trans (Wk.aH ar),_,rfl,rfl,by rw [jU,hj]⟩
  ·have uN:decide ((0:Int) < (k:Int))=true:=by simpa using by omega
   have ct:(es.map (E.out b)).take k≠[]:=by
    intro h;rw [List.take_eq_nil_iff] at h
    rcases h with h | h
    ·exact h0 h
    ·rw [List.map_eq_nil_iff] at h;subst h;simp at hk
   have hj:=Da ct x;rw [hj] at wV;rw [<-hy] at wV hj aa6;simp only [aO,length_cons,length_nil] at wV;refine D ?_;refine V [] hc ?_;exact ⟨rfl,rfl,_,_,(Wk.cut (n:=0) (fq rfl) rfl).trans (Wk.aH ar),_,rfl,rfl,by rw [jU,hj]⟩
 ·rintro _ _ ⟨y,rfl,rfl,hy⟩;have:(es.map (E.out b)).take (aQ ts).length=es.map (E.out b):=kz (by rw [aX,hlen];simp);rw [this] at hy;subst hy;exact ay
theorem pZ.out {a:E} (C:pZ a) (ho:a.ok=true) (hb:wt a.tree<=lim):LG true a:=by
 intro t ht;have h0:=C t 0 ho ht hb;unfold rV at h0;rw [L G] at h0;show GF _ _ _ _ (.v (sv a.bF)) _;refine ah func184 ntmps184 ?_;refine V [] h0 ?_;exact aj
theorem EG:∀ l:List E,l.length<=fG (E.trees l)
 | []=>aM _
 | a::l=>by
  have:=EG l;rw [E.trees,fG,length_cons]
  have:1<=wt a.tree:=by cases a <;> (rw [E.tree,wt];omega)
  omega
theorem EH:∀ {l:List E} {a:E},a∈l->wt a.tree<=fG (E.trees l)
 | [],_,h=>by cases h
 | b::l,a,h=>by
  rw [E.trees,fG]
  rcases de h with rfl | h
  ·omega
  ·have:=EH h;omega
theorem Em:∀ {l:List E} {a:E},E.db l=true->a∈l->a.ok=true
 | [],_,_,h=>by cases h
 | b::l,a,ho,h=>by
  simp only [E.db,aC] at ho
  rcases de h with rfl | h
  ·exact ho.1
  ·exact Em ho.2 h
theorem Mn (s:ae) (es:List E) (C:∀ a∈es,pZ a):tg (.call s es):=by
 intro t k ho ht hb h
 have h':decide (((E.call s es).lv:Int) < (k:Int))=false:=by simpa using h
 have hg:=sJ ho ht;obtain ⟨⟨kk,aa,vv,ss,ks⟩,l⟩:=t;obtain ⟨F,I,h3,hl⟩:=fg ht;simp only at F I h3;subst F I h3;simp only [E.ok,aC] at ho;rw [E.tree,wt] at hb;have hle:=(E.lens es ho.2).1;have hn:=EG es
 have Hi:E.dv es=es.map (E.out true):=by rw [E.SU];rfl
 have hj:=Ft true es (fun a ha=>(C a ha).out (Em ho.2 ha) (by have:=EH ha;omega)) l hl (by rw [<-Hi];omega) G;rw [<-Hi] at hj;unfold lim at hb;simp only at hb;rw [E.bF];generalize bX (E.dv es)=y at *;simp only [cT,T.n,T.kids] at hg |-;refine ah func227 ntmps227 ?_;refine V [] hg ?_;refine aL (aD 0 6 (.a 6 (aD 7 3 .nil))) ?_;refine ao ?_;refine aI [] hj ?_;exact ay
mutual
theorem xa:∀ a:E,pZ a
 | .num n=>(Pz n).p
 | .name s=>(Mo s).p
 | .at_ s a=>(RZ s a (xa a)).p
 | .call s l=>(Mn s l (KA l)).p
 | .un s a=>(R0 s a (xa a)).p
 | .bin s a b=>(Py s a b (xa a) (xa b)).p
theorem KA:∀ l:List E,∀ a∈l,pZ a
 | []=>fun a h=>by cases h
 | b::l=>fun a h=>by
  rcases de h with h | h
  ·rw [h];exact xa b
  ·exact KA l a h
end
def nH (a:E):Prop:=∀ (t:T),a.ok=true->er t=a.tree->wt a.tree<=lim->GF prog 228 [.agg (cT t)] [] (.v (sv a.full)) []
theorem nH.out {a:E} (C:nH a) (ho:a.ok=true) (hb:wt a.tree<=lim):LG false a:=by
 intro t ht;have h0:=C t ho ht hb;show GF _ _ _ _ (.v (sv a.full)) _;refine ah func184 ntmps184 ?_;refine V [] h0 ?_;exact aj
theorem Rn (n:Int):nH (.num n):=by
 intro t ho ht hb;obtain ⟨⟨kk,aa,vv,ss,ks⟩,l⟩:=t;obtain ⟨F,I,h3,hl⟩:=fg ht;simp only at F I h3;subst F I h3;simp only [E.ok,aC] at ho;have hn:=EL vv ⟨nW ho.1,nW ho.2⟩;rw [E.full];simp only [cT,T.n,T.kids];refine ah func228 ntmps228 ?_;refine V [] hn ?_;exact aj
theorem Ol (s:ae):nH (.name s):=by
 intro t ho ht hb;obtain ⟨⟨kk,aa,vv,ss,ks⟩,l⟩:=t;obtain ⟨F,I,h3,hl⟩:=fg ht;simp only at F I h3;subst F I h3;rw [E.full];simp only [cT,T.n,T.kids];refine ah func228 ntmps228 ?_;exact aj
theorem UQ (s:ae) (a:E) (C:nH a):nH (.at_ s a):=by
 intro t ho ht hb;obtain ⟨⟨kk,aa,vv,ss,ks⟩,l⟩:=t;obtain ⟨F,I,h3,hl⟩:=fg ht;simp only at F I h3;subst F I h3;obtain ⟨x,rfl,hx⟩:=xN hl;simp only [E.ok,aC] at ho;rw [E.tree,wt] at hb;simp only [fG,lim] at hb;have hc:=C x ho.2 hx (by unfold lim;omega);have hle:=(E.len a ho.2).2;have hr:(aQ [x])[0]?=some (cT x):=df rfl;rw [E.full];generalize a.full=y at *;simp only [cT,T.n,T.kids] at |-;refine ah func228 ntmps228 ?_;refine aL (aD 0 8 (.a 8 (aD 9 3 .nil))) ?_;refine ao ?_;refine aI [] hc ?_;exact ay
theorem Oj (s:ae) (es:List E) (C:∀ a∈es,nH a):nH (.call s es):=by
 intro t ho ht hb;obtain ⟨⟨kk,aa,vv,ss,ks⟩,l⟩:=t;obtain ⟨F,I,h3,hl⟩:=fg ht;simp only at F I h3;subst F I h3;simp only [E.ok,aC] at ho;rw [E.tree,wt] at hb;have hle:=(E.lens es ho.2).2;have hn:=EG es
 have Hi:E.ud es=es.map (E.out false):=by rw [E.Om];rfl
 have hj:=Ft false es (fun a ha=>(C a ha).out (Em ho.2 ha) (by have:=EH ha;omega)) l hl (by rw [<-Hi];omega) G;rw [<-Hi] at hj;unfold lim at hb;simp only at hb;rw [E.full];generalize bX (E.ud es)=y at *;simp only [cT,T.n,T.kids] at |-;refine ah func228 ntmps228 ?_;refine aL (aD 0 6 (.a 6 (aD 7 3 .nil))) ?_;refine ao ?_;refine aI [] hj ?_;exact ay
theorem UR (s:ae) (a:E) (C:nH a):nH (.un s a):=by
 intro t ho ht hb;obtain ⟨⟨kk,aa,vv,ss,ks⟩,l⟩:=t;obtain ⟨F,I,h3,hl⟩:=fg ht;simp only at F I h3;subst F I h3;obtain ⟨x,rfl,hx⟩:=xN hl;simp only [E.ok,aC] at ho;rw [E.tree,wt] at hb;simp only [fG,lim] at hb;have hc:=C x ho.2 hx (by unfold lim;omega);have hle:=(E.len a ho.2).2;have hr:(aQ [x])[0]?=some (cT x):=df rfl;rw [E.full];generalize a.full=y at *;simp only [cT,T.n,T.kids] at |-;refine ah func228 ntmps228 ?_;refine aL (aD 0 8 (.a 8 (aD 9 3 .nil))) ?_;refine ao ?_;refine aI [] hc ?_;exact ay
theorem Rm (s:ae) (a b:E) (Ca:nH a) (Cb:nH b):nH (.bin s a b):=by
 intro t ho ht hb;obtain ⟨⟨kk,aa,vv,ss,ks⟩,l⟩:=t;obtain ⟨F,I,h3,hl⟩:=fg ht;simp only at F I h3;subst F I h3;obtain ⟨x,y,rfl,hx,hy⟩:=DW hl;simp only [E.ok,aC] at ho;rw [E.tree,wt] at hb;simp only [fG,lim] at hb;have W7:=Ca x ho.1.2 hx (by unfold lim;omega);have A3:=Cb y ho.2 hy (by unfold lim;omega);have hle:=(E.len a ho.1.2).2;have abc:=(E.len b ho.2).2;have hr:(aQ [x,y])[0]?=some (cT x):=df rfl;have eg:(aQ [x,y])[1]?=some (cT y):=df rfl;rw [E.full];generalize a.full=u at *;generalize b.full=w at *;simp only [cT,T.n,T.kids] at |-;refine ah func228 ntmps228 ?_;refine aL (aD 0 4 (aD 7 3 (aD 12 4 (.a 4 (.q 5 (.q 6 (.q 10 (.q 11 (.a 16 (aD 17 3 .nil)))))))))) ?_;refine ao ?_;refine aI [] W7 ?_;refine aI [] A3 ?_;exact ay
mutual
theorem Ak:∀ a:E,nH a
 | .num n=>Rn n
 | .name s=>Ol s
 | .at_ s a=>UQ s a (Ak a)
 | .call s l=>Oj s l (Oi l)
 | .un s a=>UR s a (Ak a)
 | .bin s a b=>Rm s a b (Ak a) (Ak b)
theorem Oi:∀ l:List E,∀ a∈l,nH a
 | []=>fun a h=>by cases h
 | b::l=>fun a h=>by
  rcases de h with h | h
  ·rw [h];exact Ak b
  ·exact Oi l a h
end
theorem rB (b:Bool) {a:E} (ho:a.ok=true) (hb:wt a.tree<=lim):LG b a:=by
 cases b with
 | true=>exact (xa a).out ho hb
 | false=>exact (Ak a).out ho hb
theorem kp (b:Bool) (a:E) (ho:a.ok=true):(a.out b).length+4<=wt a.tree:=by
 have:=E.len a ho
 cases b with
 | true=>exact this.1
 | false=>exact this.2
end Go.Xg
namespace Go.Xg
open GV (U)
open Go.RowKit Go.Xw Go.Proofs Tryz
open Go.Xp (Tok Nd T bH one levels Ar dj E S er aV wt fG bU gg)
open Go.Sp
attribute [local irreducible] GW GL GO YG GC GA be bg
theorem Lr (x:E->Go.Xp.ae):∀ (l:List S) (acc:Go.Xp.ae),acc.length<=(S.dv x acc l).length
 | [],acc=>by rw [S.dv];omega
 | a::l,acc=>by
  rw [S.dv];have:=Lr x l (acc++a.bF x++[32]);simp only [aO,length_cons,length_nil] at this;omega
def oM (b:Bool) (s:S):Prop:=∀ t,s.ok=true->er t=s.tree->wt s.tree<=lim->GF prog 151 [.agg (cT t),.v (.bool b)] [] (.v (sv (s.bF (E.out b)))) []
def wz (b:Bool) (l:List S):Prop:=∀ t,S.db l=true->er t=bU l->wt (bU l)<=lim->GF prog 151 [.agg (cT t),.v (.bool b)] [] (.v (sv (gg (E.out b) l))) []
theorem La:∀ {ts:List T} {es:List S} (h:aV ts=S.trees es),ts.length=es.length/\∀ (k:Nat) t a,ts[k]?=some t->es[k]?=some a->er t=a.tree
 | [],[],_=>⟨rfl,fun k t a h=>by simp at h⟩
 | [],a::l,h=>by rw [aV,S.trees] at h;cases h
 | t::r,[],h=>by rw [aV,S.trees] at h;cases h
 | t::r,a::l,h=>by
  rw [aV,S.trees] at h
  injection h with F I
  obtain ⟨h3,h4⟩:=La I;refine ⟨by simp [h3],fun k t' a' ht ha=>?_⟩
  cases k with
  | zero=>cases ht;cases ha;exact F
  | succ k=>exact h4 k t' a' (by simpa using ht) (by simpa using ha)
theorem ID:∀ {l:List S} {a:S},a∈l->wt a.tree<=fG (S.trees l)
 | [],_,h=>by cases h
 | b::l,a,h=>by
  rw [S.trees,fG]
  rcases de h with rfl | h
  ·omega
  ·have:=ID h;omega
theorem IC:∀ l:List S,l.length<=fG (S.trees l)
 | []=>aM _
 | a::l=>by
  have:=IC l;rw [S.trees,fG,length_cons]
  have:1<=wt a.tree:=by cases a <;> (rw [S.tree,wt];omega)
  omega
theorem Iw:∀ {l:List S} {a:S},S.db l=true->a∈l->a.ok=true
 | [],_,_,h=>by cases h
 | b::l,a,ho,h=>by
  simp only [S.db,aC] at ho
  rcases de h with rfl | h
  ·exact ho.1
  ·exact Iw ho.2 h
theorem QM (b:Bool) (s:Go.Xp.ae) (a:E):oM b (.var s a):=by
 intro t ho ht hb;obtain ⟨⟨kk,aa,vv,ss,ks⟩,l⟩:=t;obtain ⟨F,I,h3,hl⟩:=fg ht;simp only at F I h3;subst F I h3;obtain ⟨x0,rfl,sd⟩:=xN hl;simp only [S.ok,aC] at ho;rw [S.tree,wt] at hb;simp only [fG,lim] at hb;have rn:=rB b (a:=a) ho.2 (by unfold lim;omega) x0 sd;have zu:=kp b a ho.2;have tz:(aQ [x0])[0]?=some (cT x0):=df rfl;rw [S.bF];generalize a.out b=y0 at *;simp only [cT,T.n,T.kids];refine ah func151 ntmps151 ?_;refine aL (aD 0 10 (.a 10 (aD 11 3 .nil))) ?_;refine ao ?_;refine aI [] rn ?_;exact ay
theorem QL (b:Bool) (s:Go.Xp.ae) (a:E):oM b (.set s a):=by
 intro t ho ht hb;obtain ⟨⟨kk,aa,vv,ss,ks⟩,l⟩:=t;obtain ⟨F,I,h3,hl⟩:=fg ht;simp only at F I h3;subst F I h3;obtain ⟨x0,rfl,sd⟩:=xN hl;simp only [S.ok,aC] at ho;rw [S.tree,wt] at hb;simp only [fG,lim] at hb;have rn:=rB b (a:=a) ho.2 (by unfold lim;omega) x0 sd;have zu:=kp b a ho.2;have tz:(aQ [x0])[0]?=some (cT x0):=df rfl;rw [S.bF];generalize a.out b=y0 at *;simp only [cT,T.n,T.kids];refine ah func151 ntmps151 ?_;refine aL (aD 0 9 (.a 9 (aD 10 3 .nil))) ?_;refine ao ?_;refine aI [] rn ?_;exact ay
theorem QJ (b:Bool) (s:Go.Xp.ae) (a:E) (c:E):oM b (.put s a c):=by
 intro t ho ht hb;obtain ⟨⟨kk,aa,vv,ss,ks⟩,l⟩:=t;obtain ⟨F,I,h3,hl⟩:=fg ht;simp only at F I h3;subst F I h3;obtain ⟨x0,x1,rfl,sd,w5⟩:=DW hl;simp only [S.ok,aC] at ho;rw [S.tree,wt] at hb;simp only [fG,lim] at hb;have rn:=rB b (a:=a) ho.2.1 (by unfold lim;omega) x0 sd;have zu:=kp b a ho.2.1;have tz:(aQ [x0,x1])[0]?=some (cT x0):=df rfl;have uP:=rB b (a:=c) ho.2.2 (by unfold lim;omega) x1 w5;have gM:=kp b c ho.2.2;have jI:(aQ [x0,x1])[1]?=some (cT x1):=df rfl;rw [S.bF];generalize a.out b=y0 at *;generalize c.out b=y1 at *;simp only [cT,T.n,T.kids];refine ah func151 ntmps151 ?_;refine aL (aD 0 9 (aD 12 5 (.a 9 (.q 10 (.q 11 (.a 17 (aD 18 3 .nil))))))) ?_;refine ao ?_;refine aI [] rn ?_;refine aI [] uP ?_;exact ay
theorem QH (b:Bool) (c:E) (p:List S) (Cp:wz b p):oM b (.if1 c p):=by
 intro t ho ht hb;obtain ⟨⟨kk,aa,vv,ss,ks⟩,l⟩:=t;obtain ⟨F,I,h3,hl⟩:=fg ht;simp only at F I h3;subst F I h3;obtain ⟨x0,x1,rfl,sd,w5⟩:=DW hl;simp only [S.ok,aC] at ho;rw [S.tree,wt] at hb;simp only [fG,lim] at hb;have rn:=rB b (a:=c) ho.1 (by unfold lim;omega) x0 sd;have zu:=kp b c ho.1;have tz:(aQ [x0,x1])[0]?=some (cT x0):=df rfl;have uP:=Cp x1 ho.2 w5 (by unfold lim bU;omega);have gM:=Go.Xp.um (E.out b) (kp b) ho.2;rw [bU] at gM;have jI:(aQ [x0,x1])[1]?=some (cT x1):=df rfl;rw [S.bF];generalize c.out b=y0 at *
 change GF _ _ _ _ (.v (sv _)) _ at uP
 unfold gg at uP gM;generalize S.dv (E.out b) [123,32] p++[125]=y1 at *;simp only [cT,T.n,T.kids];refine ah func151 ntmps151 ?_;refine aL (aD 0 5 (aD 8 5 (.a 5 (.q 6 (.q 7 (.a 13 (.q 14 (.q 15 .nil)))))))) ?_;refine ao ?_;refine aI [] rn ?_;refine aI [] uP ?_;exact ay
theorem QI (b:Bool) (c:E) (p:List S) (q:List S) (Cp:wz b p) (Cq:wz b q):oM b (.if2 c p q):=by
 intro t ho ht hb;obtain ⟨⟨kk,aa,vv,ss,ks⟩,l⟩:=t;obtain ⟨F,I,h3,hl⟩:=fg ht;simp only at F I h3;subst F I h3;obtain ⟨x0,x1,x2,rfl,sd,w5,Kr⟩:=aai hl;simp only [S.ok,aC] at ho;rw [S.tree,wt] at hb;simp only [fG,lim] at hb;have rn:=rB b (a:=c) ho.1 (by unfold lim;omega) x0 sd;have zu:=kp b c ho.1;have tz:(aQ [x0,x1,x2])[0]?=some (cT x0):=df rfl;have uP:=Cp x1 ho.2.1 w5 (by unfold lim bU;omega);have gM:=Go.Xp.um (E.out b) (kp b) ho.2.1;rw [bU] at gM;have jI:(aQ [x0,x1,x2])[1]?=some (cT x1):=df rfl;have ll:=Cq x2 ho.2.2 Kr (by unfold lim bU;omega);have kW:=Go.Xp.um (E.out b) (kp b) ho.2.2;rw [bU] at kW;have eg:(aQ [x0,x1,x2])[2]?=some (cT x2):=df rfl;rw [S.bF];generalize c.out b=y0 at *
 change GF _ _ _ _ (.v (sv _)) _ at uP
 unfold gg at uP gM;generalize S.dv (E.out b) [123,32] p++[125]=y1 at *
 change GF _ _ _ _ (.v (sv _)) _ at ll
 unfold gg at ll kW;generalize S.dv (E.out b) [123,32] q++[125]=y2 at *;simp only [cT,T.n,T.kids];refine ah func151 ntmps151 ?_;refine aL (aD 0 5 (aD 8 5 (.a 5 (.q 6 (.q 7 (.a 13 (.q 14 (.q 15 .nil)))))))) ?_;refine ao ?_;refine aI [] rn ?_;refine aI [] uP ?_;refine D ?_;refine V [] ll ?_;exact aj
theorem JB (b:Bool) (c:E) (p:List S) (Cp:wz b p):oM b (.while_ c p):=by
 intro t ho ht hb;obtain ⟨⟨kk,aa,vv,ss,ks⟩,l⟩:=t;obtain ⟨F,I,h3,hl⟩:=fg ht;simp only at F I h3;subst F I h3;obtain ⟨x0,x1,rfl,sd,w5⟩:=DW hl;simp only [S.ok,aC] at ho;rw [S.tree,wt] at hb;simp only [fG,lim] at hb;have rn:=rB b (a:=c) ho.1 (by unfold lim;omega) x0 sd;have zu:=kp b c ho.1;have tz:(aQ [x0,x1])[0]?=some (cT x0):=df rfl;have uP:=Cp x1 ho.2 w5 (by unfold lim bU;omega);have gM:=Go.Xp.um (E.out b) (kp b) ho.2;rw [bU] at gM;have jI:(aQ [x0,x1])[1]?=some (cT x1):=df rfl;rw [S.bF];generalize c.out b=y0 at *
 change GF _ _ _ _ (.v (sv _)) _ at uP
 unfold gg at uP gM;generalize S.dv (E.out b) [123,32] p++[125]=y1 at *;simp only [cT,T.n,T.kids];refine ah func151 ntmps151 ?_;refine aL (aD 0 5 (aD 8 5 (.a 5 (.q 6 (.q 7 (.a 13 (.q 14 (.q 15 .nil)))))))) ?_;refine ao ?_;refine aI [] rn ?_;refine aI [] uP ?_;exact ay
theorem QK (b:Bool) (a:E):oM b (.ret a):=by
 intro t ho ht hb;obtain ⟨⟨kk,aa,vv,ss,ks⟩,l⟩:=t;obtain ⟨F,I,h3,hl⟩:=fg ht;simp only at F I h3;subst F I h3;obtain ⟨x0,rfl,sd⟩:=xN hl;simp only [S.ok] at ho;rw [S.tree,wt] at hb;simp only [fG,lim] at hb;have rn:=rB b (a:=a) ho (by unfold lim;omega) x0 sd;have zu:=kp b a ho;have tz:(aQ [x0])[0]?=some (cT x0):=df rfl;rw [S.bF];generalize a.out b=y0 at *;simp only [cT,T.n,T.kids];refine ah func151 ntmps151 ?_;refine V [] rn ?_;exact aj
theorem S6 (b:Bool) (a:E):oM b (.do_ a):=by
 intro t ho ht hb;obtain ⟨⟨kk,aa,vv,ss,ks⟩,l⟩:=t;obtain ⟨F,I,h3,hl⟩:=fg ht;simp only at F I h3;subst F I h3;obtain ⟨x0,rfl,sd⟩:=xN hl;simp only [S.ok] at ho;rw [S.tree,wt] at hb;simp only [fG,lim] at hb;have rn:=rB b (a:=a) ho (by unfold lim;omega) x0 sd;have zu:=kp b a ho;have tz:(aQ [x0])[0]?=some (cT x0):=df rfl;rw [S.bF];generalize a.out b=y0 at *;simp only [cT,T.n,T.kids];refine ah func151 ntmps151 ?_;refine V [] rn ?_;exact aj
theorem tL (b:Bool) (es:List S) (C:∀ a∈es,oM b a):wz b es:=by
 intro t ho ht hb;obtain ⟨⟨kk,aa,vv,ss,ks⟩,l⟩:=t;obtain ⟨F,I,h3,hl⟩:=fg ht;simp only at F I h3;subst F I h3;obtain ⟨hlen,oE⟩:=La hl;have oF:=Go.Xp.um (E.out b) (kp b) ho;rw [bU,wt] at hb;rw [bU,wt] at oF;have hn:=IC es;unfold gg at oF |-;unfold lim at hb;simp only [aO,length_cons,length_nil] at hb oF;simp only [cT,T.n,T.kids];refine ah func151 ntmps151 ?_;refine GW.range (aQ l).length (fun k fr Γ=>∃ y,fr=[U,.v (.bool b),.loc 0 0,U,U,U,.v (sv y),U,U,U,U,U,U,U,U,U,U,U,U,U,U,U,U,U,U,U,U,U,U,U,U,U,U,U,U,U,U,U,U,U,U,U,U,U,U,U,U,U,U,U,U,U,U,U,U,U,U,U,U,U,U,U,U,U,U,U,U,U,U,U,U,U,U,U,U,U,U,U,U,U,U,U,U,U,U,U,U,U,U,U,U,U,U,U,U,U,U,U,U,U,U,U,U,U,U,U,U,U,U,U,U,U,U,U,U,U,U,U,U,U,U,U,U,U,U,U,U,U,U,U,U,.sl 6 (aQ l),.v (ii ((aQ l).length:Int)),.v (ii (k:Nat)),U,U,U,U,U,U,U,U,U,U,U,U]/\Γ=[.box 65 [.v (ii 14),.v (ii aa),.v (ii 0),.v (sv []),ints ks,.sl 6 (aQ l)]]/\S.dv (E.out b) y (es.drop k)=S.dv (E.out b) [123,32] es) ?_ (by rw [aX];omega) ?_ ?_ ?_
 ·exact ⟨_,_,Wk.aH ar,_,rfl,rfl,rfl⟩
 ·rintro k _ _ ⟨y,rfl,rfl,_⟩;exact dK
 ·rintro k _ _ hk ⟨y,rfl,rfl,hy⟩
  have hk:k < es.length:=by rw [aX,hlen] at hk;exact hk
  have yK:k < l.length:=by omega
  have hx:es[k]?=some es[k]:=by simp [hk]
  have jU:l[k]?=some l[k]:=by simp [yK]
  have hr:=df jU;rw [ju hk,S.dv] at hy;have hm:=bA hx;have hc:=C _ hm _ (Iw ho hm) (oE k _ _ jU hx) (by have:=ID hm;unfold lim;omega);generalize l[k]=t at *;generalize Xh:es[k].bF (E.out b)=x at *;have mV:=Lr (E.out b) (es.drop (k+1)) (y++x++[32]);rw [hy] at mV;simp only [aO,length_cons,length_nil] at mV;refine D ?_;refine V [] hc ?_;exact ⟨rfl,rfl,_,_,(Wk.cut (n:=1) (fq rfl) rfl).trans (Wk.aH ar),_,rfl,rfl,hy⟩
 ·rintro _ _ ⟨y,rfl,rfl,hy⟩;rw [List.drop_of_length_le (by rw [aX,hlen];exact aE _),S.dv] at hy;subst hy;exact ay
mutual
theorem YV (b:Bool):∀ s:S,oM b s
 | .set s a=>QL b s a
 | .put s a c=>QJ b s a c
 | .if1 c p=>QH b c p (tL b p (uA b p))
 | .if2 c p q=>QI b c p q (tL b p (uA b p)) (tL b q (uA b q))
 | .while_ c p=>JB b c p (tL b p (uA b p))
 | .ret a=>QK b a
 | .do_ a=>S6 b a
 | .var s a=>QM b s a
theorem uA (b:Bool):∀ l:List S,∀ a∈l,oM b a
 | []=>fun a h=>by cases h
 | c::l=>fun a h=>by
  rcases de h with h | h
  ·rw [h];exact YV b c
  ·exact uA b l a h
end
theorem YU (b:Bool) (l:List S):wz b l:=tL b l (uA b l)
end Go.Xg
namespace Go.Xg
open GV (U)
open Go.RowKit Go.Xw Go.Proofs Tryz
open Go.Xp (Tok Nd T bH one levels Ar dj E S er aV wt fG bU gg fw)
open Go.Sp
attribute [local irreducible] GW GL GO YG GC GA be bg
theorem Pq (p:Src) (hp:Dz p) (ls:List (List S)) (hb:Gi p ls):GF prog 105 [.agg (av p)] [] (.v (.bool (ls.all fun l=>fw l 1))) []:=by
 refine ah func105 ntmps105 ?_;refine GW.range (p.fns.map au).length (fun k fr Γ=>fr=[U,.loc 0 0,U,U,U,U,U,U,.sl 3 (p.fns.map au),.v (ii ((p.fns.map au).length:Int)),.v (ii (k:Nat)),U,U,U,U,U,U,U,U,U,U,U,U,U,U,U,U,U,U,U,U,U,U,U,U,U,U,U,U,U,U,U,U,U,U]/\Γ=[.box 33 (av p)]/\((ls.take k).all fun l=>fw l 1)=true) ?_ (by simpa using by have:=hp.fns.1;omega) ?_ ?_ ?_
 ·exact kV
 ·exact jd
 ·rintro k _ _ hk ⟨rfl,rfl,hf⟩
  have hk:k < p.fns.length:=by simpa using hk
  have fH:k < ls.length:=by rw [hb.len];exact hk
  have hx:p.fns[k]?=some p.fns[k]:=by simp [hk]
  have Bd:ls[k]?=some ls[k]:=by simp [fH]
  have hr:=Ds hx;obtain ⟨h0,ho,hw,t,rv,her⟩:=hb.at_ k _ _ hx Bd;have hs:=Gh p (fun n hn=>(hp.nodes.2 n hn).2) _ _ _ rv;rw [Int.toNat_of_nonneg h0] at hs;have Hy:=YU true ls[k] t ho her (by unfold lim;omega);obtain ⟨ts,t2,q,f,F,I,h3,h4,h5,h6,h7⟩:=Ux ho hw;have jU:=Pr _ ts G F;have hmp:RS.ok ⟨ts,0,(gg E.bF ls[k]).length,0,0⟩:=⟨aM _,by simp only;omega⟩;have ey:=(sds f).block 1 _ t2 q hmp G h5
  have mc:(E.out true)=E.bF:=by funext a;rfl
  rw [mc] at Hy;generalize gg E.bF ls[k]=tx at *;generalize wg:fw ls[k] 1=fit at *;generalize p.fns[k]=x at *
  rcases h7 with ⟨h7,h8,rfl⟩ | ⟨h7,rfl⟩
  ·have uP:(q.code != 0)=false:=by simpa using h7
   have ll:((q.i:Int) != ((q.l.map dQ).length:Int))=false:=by rw [bP,h6];simp [h8]
   refine D ?_;refine V [] hs ?_;refine V [] Hy ?_;refine V [] jU ?_;refine V [2] ey ?_;refine aL (aD 0 17 .nil) ?_;refine bx ?_;exact ⟨rfl,rfl,_,_,(Wk.cut (n:=1) (fq rfl) rfl).trans (Wk.aH ar),rfl,rfl,uG Bd hf wg⟩
  ·have uP:(q.code != 0)=true:=by simpa using h7
   have aY:(ls.all fun l=>fw l 1)=false:=wC Bd wg;rw [aY];refine D ?_;refine V [] hs ?_;refine V [] Hy ?_;refine V [] jU ?_;refine V [2] ey ?_;refine aL (aD 0 17 .nil) ?_;refine ao ?_;exact ay
 ·rintro _ _ ⟨rfl,rfl,hf⟩;rw [kz (by rw [bP,hb.len];exact aE _)] at hf;rw [hf];exact ay
theorem Na (p:Src) (hp:Dz p) (h:pJ p=some false):GF prog 58 [.agg (av p)] [] (.v (.bool false)) []:=by
 have hs:=Dc p hp false h;refine ah func58 ntmps58 ?_;refine V [] hs ?_;exact aj
theorem Nf (p:Src) (hp:Dz p) (h:pJ p=some true) (ls:List (List S)) (hb:Gi p ls):GF prog 58 [.agg (av p)] [] (.v (.bool (ls.all fun l=>fw l 1))) []:=by
 have hs:=Dc p hp true h;have hf:=Pq p hp ls hb;generalize (ls.all fun l=>fw l 1)=b at *;refine ah func58 ntmps58 ?_;refine V [] hs ?_;refine V [] hf ?_;exact aj
end Go.Xg
namespace Go.Xg
open Go.RowKit Go.Xw Go.Proofs Tryz
open Go.Xp (Tok Nd T levels Ar E S er wt bU gg fw)
open Go.Sp Go.Im
attribute [local irreducible] GW GL GO YG GC GA be bg
theorem VC {p:Src} (hw:fC p<=1048576):Dz p:=by
 obtain ⟨⟨a1,a2⟩,⟨b1,b2⟩,⟨c1,c2⟩,⟨d1,d2⟩⟩:=jO p;exact ⟨⟨by omega,fun s hs=>by have:=a2 s hs;omega⟩,⟨by omega,fun s hs=>by have:=b2 s hs;omega⟩,⟨by omega,fun f hf=>by obtain ⟨e1,e2,e3⟩:=c2 f hf;exact ⟨by omega,by omega,fun s hs=>by have:=e3 s hs;omega⟩⟩,⟨by omega,fun n hn=>by obtain ⟨e1,e2⟩:=d2 n hn;exact ⟨by omega,by omega⟩⟩⟩
theorem Nb (p:Src) (hw:fC p<=1048576):GF prog 58 [.agg (av p)] [] (.v (.bool (fI p))) []:=by
 have kl:=VC hw;obtain ⟨b,hb⟩:=MR p
 cases b with
 | false=>rw [aam hb];exact Na p kl hb
 | true =>
  obtain ⟨l,hl⟩:=VH hb;obtain ⟨ls,hf⟩:=hl.Ga;rw [aan hl hf];exact Nf p kl hb ls (NB hl hf hw)
end Go.Xg
