/- Part 6 of proofs that are told in their last texts. -/
import Derived.Test.YtbfmholmeiegoaaGreatDoorQ5
import Derived.Test.YtbfmholmeiegoaaGreatDoorQ2
open List (all_append all_cons all_eq_false all_nil length_cons length_nil)
set_option linter.unusedVariables false
set_option linter.unusedSimpArgs false
set_option maxRecDepth 100000
namespace Go.Xg
open Go.RowKit Go.Xw
def Ob.gC:Ob->Bool
 | .vech _ _ _ _=>true
 | _=>false
def nI (β:Bt) (aL:List Nat):Bt:=fun j=>match aL[j]? with
 | some i=>β i
 | none=>.no
section
variable {B:Bs} {K:Fz} {β:Bt} {F:List Ob} {w:World}
theorem bh.oy {K:Fz} {β bN:Bt} {vs:List Value} {gs:List GV} (h:bh K β vs gs) (hp:∀ g∈gs,g.pc=true):bh K bN vs gs:=⟨h.1,fun i v g L I=>(h.2 i v g L I).pc (hp g (bF I))⟩
theorem gX.flat {k:Nat} {rows:List (List GV)} (h:gX k rows):∀ g∈rows.flatten,g.pc=true:=fun g hg=>by
 obtain ⟨r,L,I⟩:=List.mem_flatten.1 hg;exact (h r L).2 g I
theorem Inv.pick (h:Inv B K β F w) (hm:B.m=0) {aL:List Nat} {Δ:List Ob} (hl:Δ.length=aL.length) (hn:aL.Nodup)
  (hx:∀ (j:Nat) x,Δ[j]?=some x->x.gC=true/\∀ i,aL[j]?=some i->F[i]?=some x):Inv B K (nI β aL) Δ w:=by
 have hb:∀ i b,(nI β aL i).blk=some b->∃ q,aL[i]?=some q/\(β q).blk=some b:=fun i b hi=>by
  unfold nI at hi
  cases hs:aL[i]? with
  | none=>rw [hs] at hi;cases hi
  | some q=>rw [hs] at hi;exact ⟨q,rfl,hi⟩
 refine ⟨h.ext,h.kle,fun i=>by rw [h.loc i G];trivial,h.loc,h.fz,fun i x hi=>?_,fun i hi=>?_,fun i j b hi hj=>?_,fun i b hi=>?_,h.kn,h.tab.step (S:=ic) (Ext.refl w) (fun _ h=>h.elim) (cU.refl K) (fun i b2 I=>?_)⟩
 ·obtain ⟨L,I⟩:=hx i x hi;have ak:=(bp hi).1;have hs:aL[i]?=some (aL[i]'G):=fM _
  cases x with
  | vech E k rows v =>
   obtain ⟨xs,e1,e2,e3,e4,e5⟩:=h.ob _ _ (I _ hs);refine ⟨xs,?_,e2,e3.oy e4.flat,e4,e5⟩;show nI β aL i=_;unfold nI;rw [hs];exact e1
  | _=>cases L
 ·unfold nI;rw [List.getElem?_eq_none G]
 ·obtain ⟨q,L,I⟩:=hb i b hi;obtain ⟨r,h3,h4⟩:=hb j b hj;have:=h.dis q r b I h4;subst this;obtain ⟨a1,a2⟩:=bp L;obtain ⟨b1,b2⟩:=bp h3;exact (List.getElem_inj hn).1 (a2.trans b2.symm)
 ·obtain ⟨q,L,I⟩:=hb i b hi;exact h.own q b I
 ·obtain ⟨q,h3,h4⟩:=hb i b2 I;exact .inl ⟨q,h4⟩
theorem Inv.view {i E k:Nat} {rows:List (List GV)} {x:Value} (h:Inv B K β F w) (hi:F[i]?=some (.vech E k rows x)):∃ K1,cU K K1/\kC K1 w/\jl K1 (fun _=>.no) w/\Rel K1 (fun _=>.no) x (.sl k rows):=by
 obtain ⟨K',hK,hr,bs⟩:=h.tu hi;exact ⟨K',hK,bs.fz,⟨bs.tab.le,bs.tab.pow,bs.tab.spc,fun i b h=>by cases h⟩,hr.pc rfl⟩
theorem Inv.VD (h:Inv B K β F w):jl K (fun _=>.no) w:=⟨h.tab.le,h.tab.pow,h.tab.spc,fun i b h=>by cases h⟩
theorem Inv.new (h:kC K w) (ht:jl K (fun _=>.no) w):Inv ⟨w,ic,K,fun _=>.no,0⟩ K (fun _=>.no) [] w :=
 ⟨Ext.refl w,cU.refl _,dp.refl _,fun _ _=>rfl,h,fun i x h=>by simp at h,fun _ _=>rfl,fun i j b h=>(by cases h),fun i b h=>(by cases h),fun b o g h=>.inl h,ht⟩
theorem Inv.EL {i idx o j E k T k':Nat} {rows ks:List (List GV)} {x h:Value} {r:List GV} (hI:Inv B K β F w) (hi:F[i]?=some (.vech T k rows h)) (hr:rows[idx]?=some r) (ho:r[o]?=some (.v x)) (cr:i≠j) (hj:F[j]?=some (.vech E k' ks x)) :
  ∃ K',cU K K'/\Inv B K' β (oset (oset F j (.vec E k' ks.length ks)) i (.vech T k (ek rows idx o (.sl k' ks)) h)) w:=by
 obtain ⟨K',hK,fv,bs⟩:=hI.tu hj;obtain ⟨xs,L,I,h3,h4,h5⟩:=bs.ob i (.vech T k rows h) (by rw [bf,dB,M (fun e=>cr e.symm)];exact hi);have ak:=(bp hr).1
 have MK:o < k:=by rw [<-(h4 r (bF hr)).1];exact (bp ho).1
 exact ⟨K',hK,bs.swap ⟨xs,by rw [iD];exact L,by rw [iD];exact I,by rw [vg MK h4 ak];exact bh.bo fv h3 (uy h4 hr ho),zB rfl h4,h5⟩⟩
theorem zA {rows:List (List GV)} {i o:Nat} {g:GV} {r:List GV} (hr:rows[i]?=some r):∀ q,(ek rows i o g)[q]?=if q=i then some (bo r o g) else rows[q]?:=by
 induction rows generalizing i with
 | nil=>simp at hr
 | cons x rs ih =>
  intro q
  cases i with
  | zero =>
   cases hr
   cases q with
   | zero=>simp [ek]
   | succ q=>simp [ek]
  | succ i =>
   cases q with
   | zero=>simp [ek]
   | succ q =>
    have:=ih (by simpa using hr) q;simp only [ek,List.getElem?_cons_succ,this]
    by_cases h:q=i
    ·simp [h]
    ·simp [h]
theorem Inv.Gx {T k o E k' jf N:Nat} {h:Value} {raw fin:Nat->List GV} {ks:Nat->List (List GV)} {hd:Nat->Value} {jp:Nat->Nat} (hI:Inv B K β F w) {EK:List (List GV)} (hjf:F[jf]?=some (.vech T k EK h)) (h0:EK.length=N/\∀ i,i < N->EK[i]?=some (raw i))
  (Ze:∀ i,i < N->(raw i)[o]?=some (.v (hd i))/\bo (raw i) o (.sl k' (ks i))=fin i) (ku:∀ i,i < N->F[jp i]?=some (.vech E k' (ks i) (hd i))) (cr:∀ i,i < N->jp i≠jf) (FC:∀ i i',i < N->i' < N->jp i=jp i'->i=i') :
  ∃ K' aO rows,cU K K'/\Inv B K' β aO w/\aO[jf]?=some (.vech T k rows h)/\rows.length=N/\(∀ i,i < N->rows[i]?=some (fin i))/\∀ q,q≠jf->(∀ i,i < N->q≠jp i)->aO[q]?=F[q]?:=by
 have key:∀ n,n<=N->∃ K' aO rows,cU K K'/\Inv B K' β aO w/\aO[jf]?=some (.vech T k rows h)/\rows.length=N/\(∀ i,i < n->rows[i]?=some (fin i))/\(∀ i,n<=i->i < N->rows[i]?=some (raw i))/\(∀ i,n<=i->i < N->aO[jp i]?=some (.vech E k' (ks i) (hd i)))/\∀ q,q≠jf->(∀ i,i < N->q≠jp i)->aO[q]?=F[q]?:=by
  intro n
  induction n with
  | zero=>intro _;exact ⟨K,F,EK,cU.refl K,hI,hjf,h0.1,fun i h=>by omega,fun i _ h=>h0.2 i h,fun i _ h=>ku i h,fun _ _ _=>rfl⟩
  | succ n ih =>
   intro hn;obtain ⟨K',aO,rows,a1,a2,a3,a4,a5,a6,a7,a8⟩:=ih G;have hr:=a6 n (aD _) G;obtain ⟨c1,c2⟩:=Ze n G;obtain ⟨K2,b1,b2⟩:=a2.EL a3 hr c1 (fun e=>cr n G e.symm) (a7 n (aD _) G);have ak:=(bp a3).1;refine ⟨K2,_,ek rows n o (.sl k' (ks n)),a1.trans b1,b2,?_,by rw [iD];exact a4,fun i hi=>?_,fun i hi MG=>?_,fun i hi MG=>?_,fun q hq XD=>?_⟩
   ·rw [bf,bf,dB];simp [ak]
   ·rw [zA hr,c2]
    by_cases e:i=n
    ·rw [ab e,e]
    ·rw [M e];exact a5 i G
   ·rw [zA hr,M G];exact a6 i G MG
   ·rw [bf,bf,dB,M (fun e=>cr i MG e.symm),dB,M (fun e=>by have:=FC n i G MG e;omega)];exact a7 i G MG
   ·rw [bf,bf,dB,M (fun e=>hq e.symm),dB,M (fun e=>XD n G e.symm)];exact a8 q hq XD
 obtain ⟨K',aO,rows,a1,a2,a3,a4,a5,_,_,a8⟩:=key N (aD _);exact ⟨K',aO,rows,a1,a2,a3,a4,a5,a8⟩
end
section
variable {P:Program} {fn:Func} {R:GV->List Ob->Prop} {fr:List GV} {F:List Ob} {e:Exit}
theorem V6 {t:Tmp} {x:Value} (aL:List Nat) (Δ:List Ob) (hr:fn.results=#[.tmp t]) (he:e=.normal\/e=.ret) (hg:cB fr t=.v x) (hl:Δ.length=aL.length) (hn:aL.Nodup)
  (hx:∀ (j:Nat) x,Δ[j]?=some x->x.gC=true/\∀ i,aL[j]?=some i->F[i]?=some x) (h:R (.v x) Δ):qv P fn 0 R e fr F :=
 ⟨he,fun B K β w l hB hI hF=>⟨nth l t,K,nI β aL,.v x,Δ,by rw [results_tmp hr,jM],hI.pick hB hl hn hx,by have:=hF.nth t;rw [hg] at this;rw [Rel.fD this];exact .v _,h⟩⟩
theorem QH {t:Tmp} {T:TypeId} {k:Nat} [hT:Ty P T true k] {i:Nat} {E:TypeId} {cs:List GV} (aL:List Nat) (Δ:List Ob) (hr:fn.results=#[.cell t T]) (he:e=.normal\/e=.ret) (hg:cB fr t=.loc i 0) (bG:F[i]?=some (.box E cs)) (hk:cs.length=k) (hp:oy cs=true)
  (hl:Δ.length=aL.length) (hn:aL.Nodup) (hx:∀ (j:Nat) x,Δ[j]?=some x->x.gC=true/\∀ i,aL[j]?=some i->F[i]?=some x) (h:R (.agg cs) Δ):qv P fn 0 R e fr F :=
 ⟨he,fun B K β w l hB hI hF=>by
  obtain ⟨b,vs,L,I,h3,h4⟩:=hI.ob i _ bG
  have ML:nth l t=.pointer (some ⟨b,0,none⟩):=by
   have:=hF.nth t;rw [hg] at this;generalize nth l t=v at this
   cases this with
   | loc _ _ b' bC=>rw [L] at bC;cases bC;rfl
  have kZ:l.toArray.getD t undef=.pointer (some ⟨b,0,none⟩):=by rw [jM,ML]
  have BC:=mG (P:=P) (w:=w) (t:=T) (b:=b) (o:=0) (vs:=vs) (k:=k) (by rw [h3.1,hk]) (fun j v hj=>by
   rw [cL,cell_of_row w b j _ E (0,0) I];simpa using hj)
  have xb:l[t]?.getD undef=.pointer (some ⟨b,0,none⟩):=by simpa using kZ
  have h5:bh K (nI β aL) vs cs:=h3.oy (lp hp)
  exact ⟨.agg vs.toArray,K,nI β aL,.agg cs,Δ,by simp [results,hr,xb,asAddr,BC],hI.pick hB hl hn hx,.agg vs cs h5.1 h5.2,h⟩⟩
end
section
variable {P:Program} {fn:Func} {R:GV->List Ob->Prop} {fr:List GV} {F:List Ob} {e:Exit}
theorem Dz {F:List Ob} {n:Nat} (h:∀ x∈F.drop n,x.gC=true):(F.drop n).length=((List.range (F.length - n)).map (·+n)).length/\((List.range (F.length - n)).map (·+n)).Nodup /\
  ∀ (j:Nat) x,(F.drop n)[j]?=some x->x.gC=true/\∀ i,((List.range (F.length - n)).map (·+n))[j]?=some i->F[i]?=some x:=by
 refine ⟨by simp,?_,fun j x hj=>⟨h x (bF hj),fun i hi=>?_⟩⟩
 ·unfold List.Nodup;rw [List.pairwise_map]
  exact List.nodup_range.imp fun cr he=>cr G
 ·have ak:=(bp hj).1;rw [iK] at ak;rw [aV,List.getElem?_range ak] at hi;cases hi;rw [List.getElem?_drop] at hj;show F[j+n]?=some x;rw [Nat.add_comm];exact hj
theorem Bn {t:Tmp} {x:Value} (n:Nat) (hr:fn.results=#[.tmp t]) (he:e=.normal\/e=.ret) (hg:cB fr t=.v x) (ha:∀ x∈F.drop n,x.gC=true) (h:R (.v x) (F.drop n)):qv P fn 0 R e fr F :=
 have hd:=Dz ha
 V6 _ (F.drop n) hr he hg hd.1 hd.2.1 hd.2.2 h
theorem Kb {t:Tmp} {T:TypeId} {k:Nat} [hT:Ty P T true k] {i:Nat} {E:TypeId} {cs:List GV} (n:Nat) (hr:fn.results=#[.cell t T]) (he:e=.normal\/e=.ret) (hg:cB fr t=.loc i 0) (bG:F[i]?=some (.box E cs)) (hk:cs.length=k) (hp:oy cs=true)
  (ha:∀ x∈F.drop n,x.gC=true) (h:R (.agg cs) (F.drop n)):qv P fn 0 R e fr F :=
 have hd:=Dz ha
 QH _ (F.drop n) hr he hg bG hk hp hd.1 hd.2.1 hd.2.2 h
end
section
variable {P:Program} {m:Nat} {Q:du} {fr:List GV} {F:List Ob} {ops:Array Oper} {rest:List Oper} {d:Option Tmp} {op:Op} {ty:TypeId} {pos:String} {af:Array Edge}
theorem GL.kE {t:TypeId} {x:Operand} {cs:List GV} (hx:mr (ba fr x)=some cs) (hp:oy cs=true) (h:GL P m ops Q rest (bx fr d (.box cs 0)) F):GL P m ops Q (⟨d,.box t x,ty,pos,af,none⟩::rest) fr F:=fun B K β w l hm hI hF=>by
 obtain ⟨vs,L,I⟩:=(hF.ev x).cells hx
 refine WL.box rfl fun b w' hn=>?_
 rw [L] at hn;obtain ⟨hle,bs⟩:=hI.sk hn I (lp hp);exact h B _ β w' _ hm bs ((hF.mono hle (dp.refl β)).put d (Rel.box (K:=lf K b cs) (β:=β) b 0 0 cs (fun j g hg=>by rw [cL];exact tA hg)))
theorem GL.borrow {f:FuncId} [hf:aJ P f] {args:List Operand} {lP:Array TypeId} {gs:List GV} {v:Value} (hc:GF P f gs [] (.v v) [])
  (hv:∀ B K β w l,Inv B K β F w->FR K β fr l->∃ K1,kC K1 w/\jl K1 (fun _=>.no) w/\bh K1 (fun _=>.no) (args.map (ev l)) gs)
  (h:GL P m ops Q rest (bx fr d (.v v)) F):GL P m ops Q (⟨d,.call ⟨.value (.func f),args.toArray,lP⟩,ty,pos,af,none⟩::rest) fr F:=fun B K β w l hm hI hF=>by
 obtain ⟨K1,L,I,h3⟩:=hv B K β w l hI hF
 have sr:(execOp (ev l) ⟨d,.call ⟨.value (.func f),args.toArray,lP⟩,ty,pos,af,none⟩).run P w=.ok (.enter f (args.map (ev l)).toArray) w:=by simp [execOp,resolve,ev,Deferred.ofValue,invoke,mF]
 refine WL.calls sr (hc _ K1 _ w _ rfl (Inv.new L I) h3) ?_;rintro x w' ⟨K',bN,g,aO,bs,fv,rfl,rfl⟩;exact h B K β w' _ hm (hI.same bs.ext) (hF.put d (by rw [Rel.fD fv];exact .v _))
theorem uz {P:Program} {w:World} {t e ty:TypeId} {i:TypeInfo} (hu:P.underlying t=some (.slice e)) (hi:P.info? e=some i) (a b:Option Addr) (n c d:Nat) (hc:n<=c) :
  (Builtin.append_ #[t,t] ty #[.slice a n c,.slice b 0 d]).run P w=.ok (.slice a n c) w:=by
 cases a <;> cases b <;> simp [Builtin.append_,run_underlying hu,sizeOf,typeInfo,hi,Builtin.lenOf,hc,Builtin.firstCells,loadCells,loadCellsFrom,storeCells]
theorem GL.VU {s x:Operand} {t e k gS:Nat} [hT:oZ P t e k gS] (i:Nat) {dt:Tmp} {v:Value} {rows:List (List GV)} (hx:ba fr x=.sl k []) (hs:ba fr s=.v v) (bG:F[i]?=some (.vech e k rows v))
  (h:GL P m ops Q rest (bx fr (some dt) (.v v)) F):GL P m ops Q (⟨some dt,.call ⟨.builtin .append,#[s,x],#[t,t]⟩,ty,pos,af,none⟩::rest) fr F:=fun B K β w l hm hI hF=>by
 obtain ⟨hu,⟨j,z,hi,_⟩,_⟩:=hT.parts;obtain ⟨xs,o1,o2,_⟩:=hI.ob i _ bG;have rl:ev l s=v:=hF.jI hs;have uk:=hF.ev x;rw [hx] at uk;generalize su:ev l x=vx at uk
 obtain ⟨b,d',rfl⟩:∃ b d',vx=.slice b 0 d':=by
  cases uk with
  | sl0 a c k=>exact ⟨a,c,rfl⟩
  | sl b o c _ _ hr _=>exact ⟨_,_,rfl⟩
 obtain ⟨a,n,c,rfl,hc⟩:∃ a n c,v=.slice a n c/\n<=c:=by
  rcases o2.2 with ⟨e1,e2⟩ | ⟨g,cap,cur,e1,_,_,e2,_⟩
  ·exact ⟨_,_,_,e1,aD _⟩
  ·exact ⟨_,_,_,e1,e2⟩
 have nQ:=uz (P:=P) (w:=w) (ty:=ty) hu hi a b n c d' hc;exact WL.val (v:=.slice a n c) (w':=w) (by simp [execOp,resolve,invoke,builtin,rl,su,nQ]) (h B K β w _ hm hI (hF.put _ (.v _)))
theorem GL.VX {s x:Operand} {t e k gS:Nat} [hT:oZ P t e k gS] {i n fz:Nat} {dt:Tmp} {rows:List (List GV)} (hx:ba fr x=.sl k []) (hs:ba fr s=.vec i n) (bG:F[i]?=some (.vec e k fz rows)) (hn:rows.length=n)
  (h:GL P m ops Q rest (bx fr (some dt) (.vec i n)) F):GL P m ops Q (⟨some dt,.call ⟨.builtin .append,#[s,x],#[t,t]⟩,ty,pos,af,none⟩::rest) fr F:=fun B K β w l hm hI hF=>by
 subst hn;obtain ⟨hu,⟨j,z,hi,_⟩,_⟩:=hT.parts;obtain ⟨h0,xs,o1,o2,_⟩:=hI.ob i _ bG;have uh:=hF.ev s;rw [hs] at uh
 have rl:ev l s=h0:=by
  generalize hv:ev l s=v at uh
  cases uh with
  | vec _ _ a c hh =>
   obtain ⟨h',m',e1,e2,e3⟩:=hh;rw [o1] at e1;cases e1;exact e3 rfl
 have uk:=hF.ev x;rw [hx] at uk;generalize su:ev l x=vx at uk
 obtain ⟨b,d',rfl⟩:∃ b d',vx=.slice b 0 d':=by
  cases uk with
  | sl0 a c k=>exact ⟨a,c,rfl⟩
  | sl b o c _ _ hr _=>exact ⟨_,_,rfl⟩
 obtain ⟨a,n,c,rfl,hc⟩:∃ a n c,h0=.slice a n c/\n<=c:=by
  rcases o2.2 with ⟨e1,e2⟩ | ⟨g,cap,cur,e1,_,_,e2,_⟩
  ·exact ⟨_,_,_,e1,aD _⟩
  ·exact ⟨_,_,_,e1,e2⟩
 have nQ:=uz (P:=P) (w:=w) (ty:=ty) hu hi a b n c d' hc;exact WL.val (v:=.slice a n c) (w':=w) (by simp [execOp,resolve,invoke,builtin,rl,su,nQ]) (h B K β w _ hm hI (hF.put _ (by have:=hF.ev s;rw [hs,rl] at this;exact this)))
theorem Ec {F:List Ob} {i:Nat} {x:Ob} (h:F[i]?=some x):oset F i x=F:=by
 rw [bf];apply List.ext_getElem?;intro j;rw [dB]
 by_cases e:i=j
 ·subst e;have:=(bp h).1;rw [ab rfl,ab this,h]
 ·rw [M e]
theorem GL.pL {s x:Operand} {t e k gS:Nat} [hT:oZ P t e k gS] (i:Nat) {n:Nat} {dt:Tmp} {a0:Option Addr} {c0:Nat} {rows news:List (List GV)} (hx:ba fr x=.sl k news) (hs:ba fr s=.v (.slice a0 n c0)) (bG:F[i]?=some (.vech e k rows (.slice a0 n c0))) (hn:rows.length=n) (L:ig news=true)
  (hb:n+news.length<=9223372036854775807/\(n+news.length) * gS<=140737488355328)
  (h:∀ a c,GL P m ops Q rest (bx fr (some dt) (.v (.slice a (n+news.length) c))) (oset F i (.vech e k (rows++news) (.slice a (n+news.length) c)))) :
  GL P m ops Q (⟨some dt,.call ⟨.builtin .append,#[s,x],#[t,t]⟩,ty,pos,af,none⟩::rest) fr F:=by
 cases news with
 | nil =>
  have h0:=h a0 c0;rw [cq,show n+([]:List (List GV)).length=n from rfl,Ec bG] at h0;exact GL.VU i hx hs bG h0
 | cons r rs=>exact GL.rz i hx hs bG hn L rfl hb h
theorem GL.wO {s x:Operand} {t e k gS:Nat} [hT:oZ P t e k gS] {i n fz:Nat} {dt:Tmp} {rows news:List (List GV)} (hx:ba fr x=.sl k news) (hs:ba fr s=.vec i n) (bG:F[i]?=some (.vec e k fz rows)) (hn:rows.length=n) (L:ig news=true)
  (hb:n+news.length<=9223372036854775807/\(n+news.length) * gS<=140737488355328)
  (h:GL P m ops Q rest (bx fr (some dt) (.vec i (n+news.length))) (oset F i (.vec e k fz (rows++news)))) :
  GL P m ops Q (⟨some dt,.call ⟨.builtin .append,#[s,x],#[t,t]⟩,ty,pos,af,none⟩::rest) fr F:=by
 cases news with
 | nil =>
  rw [cq,show n+([]:List (List GV)).length=n from rfl,Ec bG] at h;exact GL.VX hx hs bG hn h
 | cons r rs=>exact GL.app hx hs bG hn L rfl hb h
theorem Eh:∀ (us vs:List Value),vs.length=us.length->iF vs 0 us=us:=by
 have key:∀ (us a vs:List Value),vs.length=us.length->iF (a++vs) a.length us=a++us:=by
  intro us
  induction us with
  | nil=>intro a vs h;rw [gJ h];rfl
  | cons u us ih =>
   intro a vs h
   cases vs with
   | nil=>simp at h
   | cons v vs =>
    have hu:fC (a++v::vs) a.length u=(a++[u])++vs:=by
     clear ih h
     induction a with
     | nil=>rfl
     | cons x a ih=>rw [List.cons_append,length_cons,fC,ih];rfl
    have:=ih (a++[u]) vs (by simpa using h);rw [aU,List.length_singleton] at this;rw [iF,hu,this];simp
 intro us vs h;exact key us [] vs h
theorem GL.A1 {t:TypeId} {z:Value} {agg:Bool} {k:Nat} [hZ:qY P t z] [hT:Ty P t agg k] {dt ts:Tmp} {cs:List GV} {VH:TypeId} {PW:String} {Tl:Array Edge} {d2:Option Tmp} (UP:z.cells.size=k) (hy:mr (cB fr ts)=some cs) (cr:Nat.beq ts dt=false) (fi:jj fr dt=true) (hk:cs.length=k) (L:ml cs=true) (hp:oy cs=true)
  (h:GL P m ops Q rest (bx (bx fr (some dt) (.box cs 0)) d2 (.v undef)) F):GL P m ops Q (⟨some dt,.alloc t,ty,pos,af,none⟩::⟨d2,.store t (.tmp dt) (.tmp ts),VH,PW,Tl,none⟩::rest) fr F:=fun B K β w l hm hI hF=>by
 refine WL.alloc (z:=z) fun b w1 hn=>?_
 obtain ⟨us,jS,km⟩:=(hF.nth ts).cells hy
 have FE:ts≠dt:=by intro e;subst e;simp at cr
 have MS:ev (put l (some dt) (.pointer (some ⟨b,0,none⟩))) (.tmp ts)=nth l ts:=jE FE _;have yG:ev (put l (some dt) (.pointer (some ⟨b,0,none⟩))) (.tmp dt)=.pointer (some ⟨b,0,none⟩):=rL (nE hF fi) _
 have yF:us.length=k:=by rw [km.1,hk]
 refine WL.st (t:=t) (k:=k) yG MS hn.blk (by rw [jS];simpa using yF) G (by rw [jS];simpa using km.l8 L) fun w2 hs=>?_
 have bY:uA z.cells 0 us=us.toArray:=by
  have:=sD us z.cells.toList 0;rw [Eh us _ (by rw [Array.length_toList,UP,yF])] at this;simpa using this
 rw [jS,List.toList_toArray,bY] at hs;have yy:uM w w2 b (.cells us.toArray t):=⟨hn.fresh,by rw [hs.size];exact hn.size,hs.blk,hn.ext.step hs.ext fun j hj=>.inl (by subst hj;rw [hn.fresh];exact aD _)⟩;obtain ⟨hle,bs⟩:=hI.sk yy km (lp hp);exact h B _ β w2 _ hm bs (((hF.mono hle (dp.refl β)).put (some dt) (Rel.box (K:=lf K b cs) (β:=β) b 0 0 cs (fun j g hg=>by rw [cL];exact tA hg))).put d2 (.v _))
end
end Go.Xg
set_option maxHeartbeats 2000000
namespace Go.Xg
open GV (U)
open Go.RowKit Go.Xw Go.Proofs Tryz
open Go.Xp (Nd Ar)
open Go.Sp (Src)
open Go.Im (lY lX lW)
attribute [local irreducible] GW GL GO YG GC GA be bd
def bA (l:List ae):List (List GV):=l.map fun s=>[GV.v (sv s)]
def l6 (l:List Int):List (List GV):=l.map fun i=>[GV.v (ii i)]
def Hd (n:Nat) (h:Value):Prop:=∃ a c,h=.slice a n c
theorem An (l:List ae) (hl:l.length<=1048576):GC prog 31 [strs l] [] fun g Δ=>∃ h,Hd l.length h/\g=.v h/\Δ=[.vech 9 1 (bA l) h]:=by
 have hm:(l.map (fun s=>[GV.v (sv s)])).length=l.length:=by simp
 refine ah func31 ntmps31 ?_;refine GL.Af rfl ⟨by omega,by omega⟩ ?_;intro a c;refine cE ?_;refine D ?_;refine GW.loop (fun k:Nat=>l.length - k) (fun k fr F=>∃ R Z,fr=[strs l,U,U,.v (.slice a (l.map (fun s=>[GV.v (sv s)])).length c),.v (ii (k:Nat)),U,U,U,U,U,U,U,U,U,U,U,U,U,U,U,U,U]/\F=[.vech 9 1 R (.slice a (l.map (fun s=>[GV.v (sv s)])).length c)]/\k<=l.length/\R=(l.take k).map (fun s=>[GV.v (sv s)])++List.replicate (l.length - k) Z) 0 ?_ ?_
 ·exact ⟨_,_,Wk.aE ao,_,_,rfl,rfl,aM _,by rw [hm];rfl⟩
 rintro k _ _ ⟨R,Z,rfl,rfl,hk,hR⟩
 have me:R.length=l.length:=by rw [hR];exact lX hk
 have ef:R.length=(l.map (fun s=>[GV.v (sv s)])).length:=by rw [hm];exact me
 by_cases ak:k < l.length
 ·have hx:l[k]?=some l[k]:=by simp [ak]
  have hr:(l.map (fun s=>[GV.v (sv s)]))[k]?=some ((fun s=>[GV.v (sv s)]) l[k]):=by rw [aV,hx];rfl
  have dH:decide ((k:Int) < ((l.map (fun s=>[GV.v (sv s)])).length:Int))=true:=by rw [hm];simpa using ak
  have bY:=lY (f:=(fun s=>[GV.v (sv s)])) (Z:=Z) hx;rw [<-hR] at bY;clear hR;generalize l[k]=x at *;refine D ?_;refine lx ?_;refine D ?_;exact ⟨k+1,⟨_,_,Wk.aE ao,_,Z,rfl,rfl,ak,bY⟩,by show l.length - (k+1) < l.length - k;omega⟩
 ·have dH:decide ((k:Int) < ((l.map (fun s=>[GV.v (sv s)])).length:Int))=false:=by rw [hm];simpa using ak
  have my:k=l.length:=by omega
  subst my;rw [lW] at hR;subst hR;refine cl ?_;refine D ?_;refine nW ?_;exact Bn 0 rfl dF rfl (fun x hx=>by rw [sP hx];rfl) ⟨_,⟨_,_,by rw [hm]⟩,rfl,rfl⟩
theorem Qi (l:List Int) (hl:l.length<=1048576):GC prog 138 [ints l] [] fun g Δ=>∃ h,Hd l.length h/\g=.v h/\Δ=[.vech 3 1 (l6 l) h]:=by
 have hm:(l.map (fun i=>[GV.v (ii i)])).length=l.length:=by simp
 refine ah func138 ntmps138 ?_;refine GL.Af rfl ⟨by omega,by omega⟩ ?_;intro a c;refine cE ?_;refine D ?_;refine GW.loop (fun k:Nat=>l.length - k) (fun k fr F=>∃ R Z,fr=[ints l,U,U,.v (.slice a (l.map (fun i=>[GV.v (ii i)])).length c),.v (ii (k:Nat)),U,U,U,U,U,U,U,U,U,U,U,U,U,U,U,U,U]/\F=[.vech 3 1 R (.slice a (l.map (fun i=>[GV.v (ii i)])).length c)]/\k<=l.length/\R=(l.take k).map (fun i=>[GV.v (ii i)])++List.replicate (l.length - k) Z) 0 ?_ ?_
 ·exact ⟨_,_,Wk.aE ao,_,_,rfl,rfl,aM _,by rw [hm];rfl⟩
 rintro k _ _ ⟨R,Z,rfl,rfl,hk,hR⟩
 have me:R.length=l.length:=by rw [hR];exact lX hk
 have ef:R.length=(l.map (fun i=>[GV.v (ii i)])).length:=by rw [hm];exact me
 by_cases ak:k < l.length
 ·have hx:l[k]?=some l[k]:=by simp [ak]
  have hr:(l.map (fun i=>[GV.v (ii i)]))[k]?=some ((fun i=>[GV.v (ii i)]) l[k]):=by rw [aV,hx];rfl
  have dH:decide ((k:Int) < ((l.map (fun i=>[GV.v (ii i)])).length:Int))=true:=by rw [hm];simpa using ak
  have bY:=lY (f:=(fun i=>[GV.v (ii i)])) (Z:=Z) hx;rw [<-hR] at bY;clear hR;generalize l[k]=x at *;refine D ?_;refine lx ?_;refine D ?_;exact ⟨k+1,⟨_,_,Wk.aE ao,_,Z,rfl,rfl,ak,bY⟩,by show l.length - (k+1) < l.length - k;omega⟩
 ·have dH:decide ((k:Int) < ((l.map (fun i=>[GV.v (ii i)])).length:Int))=false:=by rw [hm];simpa using ak
  have my:k=l.length:=by omega
  subst my;rw [lW] at hR;subst hR;refine cl ?_;refine D ?_;refine nW ?_;exact Bn 0 rfl dF rfl (fun x hx=>by rw [sP hx];rfl) ⟨_,⟨_,_,by rw [hm]⟩,rfl,rfl⟩
theorem Lg (l:List Ar) (hl:l.length<=1048576):GC prog 32 [.sl 2 (l.map az)] [] fun g Δ=>∃ h,Hd l.length h/\g=.v h/\Δ=[.vech 56 2 (List.map az l) h]:=by
 have hm:(l.map (az)).length=l.length:=by simp
 refine ah func32 ntmps32 ?_;refine GL.Af rfl ⟨by omega,by omega⟩ ?_;intro a c;refine cE ?_;refine D ?_;refine GW.loop (fun k:Nat=>l.length - k) (fun k fr F=>∃ R Z,fr=[.sl 2 (l.map az),U,U,.v (.slice a (l.map (az)).length c),.v (ii (k:Nat)),U,U,U,U,U,U,U,U,U,U,U,U,U,U,U,U,U,U]/\F=[.vech 56 2 R (.slice a (l.map (az)).length c)]/\k<=l.length/\R=(l.take k).map (az)++List.replicate (l.length - k) Z) 0 ?_ ?_
 ·exact ⟨_,_,Wk.aE ao,_,_,rfl,rfl,aM _,by rw [hm];rfl⟩
 rintro k _ _ ⟨R,Z,rfl,rfl,hk,hR⟩
 have me:R.length=l.length:=by rw [hR];exact lX hk
 have ef:R.length=(l.map (az)).length:=by rw [hm];exact me
 by_cases ak:k < l.length
 ·have hx:l[k]?=some l[k]:=by simp [ak]
  have hr:(l.map (az))[k]?=some ((az) l[k]):=by rw [aV,hx];rfl
  have dH:decide ((k:Int) < ((l.map (az)).length:Int))=true:=by rw [hm];simpa using ak
  have bY:=lY (f:=(az)) (Z:=Z) hx;rw [<-hR] at bY;have hc:=Em l[k];clear hR;generalize l[k]=x at *;refine D ?_;refine V [] hc ?_;refine lx ?_;refine D ?_;exact ⟨k+1,⟨_,_,Wk.aE ao,_,Z,rfl,rfl,ak,bY⟩,by show l.length - (k+1) < l.length - k;omega⟩
 ·have dH:decide ((k:Int) < ((l.map (az)).length:Int))=false:=by rw [hm];simpa using ak
  have my:k=l.length:=by omega
  subst my;rw [lW] at hR;subst hR;refine cl ?_;refine D ?_;refine nW ?_;exact Bn 0 rfl dF rfl (fun x hx=>by rw [sP hx];rfl) ⟨_,⟨_,_,by rw [hm]⟩,rfl,rfl⟩
def fL (x:Go.Sp.Fn) (h:Value):List GV:=[.v (sv x.name),.v h,.v (ii x.body)]
def fK (x:Go.Sp.Fn) (h:Value):Ob:=.vech 9 1 (bA x.params) h
theorem VF (x:Go.Sp.Fn) (hp:x.params.length<=1048576):GC prog 87 [.agg (au x)] [] fun g Δ=>∃ h,Hd x.params.length h/\g=.agg (fL x h)/\Δ=[fK x h]:=by
 have h0:=An x.params hp;refine ah func87 ntmps87 ?_;refine cD [] h0 ?_;rintro _ _ ⟨_,⟨a1,c1,rfl⟩,rfl,rfl⟩;refine eO ?_;refine D ?_;refine nW ?_;refine Kb 3 rfl dF rfl rfl rfl rfl ?_ ?_
 ·intro x hx;rw [sP hx];rfl
 ·exact ⟨_,⟨_,_,rfl⟩,rfl,rfl⟩
theorem Ta (l:List Go.Sp.Fn) (hl:l.length<=1048576) (he:∀ x∈l,x.params.length<=1048576):GC prog 33 [.sl 3 (l.map au)] [] fun g Δ=>∃ h hs,Hd l.length h/\hs.length=l.length/\(∀ (i:Nat) x y,l[i]?=some x->hs[i]?=some y->Hd x.params.length y)/\g=.v h /\
  Δ=.vech 58 3 (List.zipWith fL l hs) h::List.zipWith fK l hs:=by
 have hm:(l.map au).length=l.length:=by simp
 refine ah func33 ntmps33 ?_;refine GL.Af rfl ⟨by omega,by omega⟩ ?_;intro a c;refine cE ?_;refine D ?_
 refine GW.loop (fun k:Nat=>l.length - k) (fun k fr F=>∃ R Z hs,fr=[.sl 3 (l.map au),U,U,.v (.slice a (l.map au).length c),.v (ii (k:Nat)),U,U,U,U,U,U,U,U,U,U,U,U,U,U,U,U,U,U]/\F=.vech 58 3 R (.slice a (l.map au).length c)::List.zipWith fK (l.take k) hs/\k<=l.length/\hs.length=k /\
  (∀ (i:Nat) x y,l[i]?=some x->hs[i]?=some y->Hd x.params.length y)/\R=List.zipWith fL (l.take k) hs++List.replicate (l.length - k) Z) 0 ?_ ?_
 ·exact ⟨_,_,Wk.aE ao,_,_,[],rfl,rfl,aM _,rfl,(fun i x y _ h=>by simp at h),by rw [hm];rfl⟩
 rintro k _ _ ⟨R,Z,hs,rfl,rfl,hk,FA,MF,hR⟩
 have me:R.length=l.length:=by rw [hR,aU,lR,cS,List.length_replicate];omega
 have ef:R.length=(l.map au).length:=by rw [hm];exact me
 by_cases ak:k < l.length
 ·have hx:l[k]?=some l[k]:=by simp [ak]
  have hr:(l.map au)[k]?=some (au l[k]):=by rw [aV,hx];rfl
  have dH:decide ((k:Int) < ((l.map au).length:Int))=true:=by rw [hm];simpa using ak
  have hex:=he _ (bF hx);have hc:=VF l[k] hex
  have ji:l.take (k+1)=l.take k++[l[k]]:=by rw [cm,hx];rfl
  have MV:∀ {γ:Type} (f:Go.Sp.Fn->Value->γ) (h:Value),List.zipWith f (l.take (k+1)) (hs++[h])=List.zipWith f (l.take k) hs++[f l[k] h]:=fun f h=>by
   rw [ji,List.zipWith_append (by rw [cS];omega)];rfl
  have bY:∀ h,R.set k (fL l[k] h)=List.zipWith fL (l.take (k+1)) (hs++[h])++List.replicate (l.length - (k+1)) Z:=fun h=>by
   have hz:(List.zipWith fL (l.take k) hs).length=k:=by rw [lR,cS];omega
   rw [hR,MV,show l.length - k=(l.length - (k+1))+1 by omega,List.replicate_succ,List.set_append_right _ _ G,hz,iJ,List.set_cons_zero];simp
  have Pd:∀ h,Hd l[k].params.length h->∀ (i:Nat) x y,l[i]?=some x->(hs++[h])[i]?=some y->Hd x.params.length y:=fun h hh i x y L I=>by
   by_cases hik:i < hs.length
   ·rw [ff hik] at I;exact MF i x y L I
   ·have h3:=(bp I).1;rw [aU,List.length_singleton] at h3
    have:i=k:=by omega
    subst this;rw [eE G,FA,iJ] at I;rw [hx] at L
    cases L;cases I;exact hh
  clear hR;have UC:=MV fK;unfold fL fK at hc;generalize hlx:l[k]=x at *;refine D ?_;refine cD [] hc ?_;rintro _ _ ⟨_,⟨a1,c1,rfl⟩,rfl,rfl⟩;refine eO ?_;refine D ?_;refine lx ?_;refine D ?_;refine ⟨k+1,⟨_,_,Wk.aE ao,_,Z,hs++[_],rfl,?_,ak,by simp [FA],Pd _ ⟨a1,c1,rfl⟩,bY _⟩,by show l.length - (k+1) < l.length - k;omega⟩;rw [UC];rfl
 ·have dH:decide ((k:Int) < ((l.map au).length:Int))=false:=by rw [hm];simpa using ak
  have my:k=l.length:=by omega
  subst my;rw [b7,iJ,List.replicate_zero,cq] at hR;subst hR;rw [b7];refine cl ?_;refine D ?_;refine nW ?_;refine Bn 0 rfl dF rfl (fun x hx=>?_) ⟨_,hs,⟨_,_,by rw [hm]⟩,FA,MF,rfl,rfl⟩
  rcases dA hx with rfl | hx
  ·rfl
  ·obtain ⟨i,hi⟩:=List.getElem?_of_mem hx;rw [List.getElem?_zipWith] at hi;split at hi
   ·cases hi;rfl
   ·cases hi
def cR (x:Nd) (h:Value):List GV:=[.v (ii x.kind),.v (ii x.at_),.v (ii x.n),.v (sv x.s),.v h]
def dd (x:Nd) (h:Value):Ob:=.vech 3 1 (l6 x.kids) h
theorem Qk (x:Nd) (hp:x.kids.length<=1048576):GC prog 88 [.agg (aw x)] [] fun g Δ=>∃ h,Hd x.kids.length h/\g=.agg (cR x h)/\Δ=[dd x h]:=by
 have h0:=Qi x.kids hp;refine ah func88 ntmps88 ?_;refine cD [] h0 ?_;rintro _ _ ⟨_,⟨a1,c1,rfl⟩,rfl,rfl⟩;refine eO ?_;refine D ?_;refine nW ?_;refine Kb 3 rfl dF rfl rfl rfl rfl ?_ ?_
 ·intro x hx;rw [sP hx];rfl
 ·exact ⟨_,⟨_,_,rfl⟩,rfl,rfl⟩
theorem N1 (l:List Nd) (hl:l.length<=1048576) (he:∀ x∈l,x.kids.length<=1048576):GC prog 34 [.sl 5 (l.map aw)] [] fun g Δ=>∃ h hs,Hd l.length h/\hs.length=l.length/\(∀ (i:Nat) x y,l[i]?=some x->hs[i]?=some y->Hd x.kids.length y)/\g=.v h /\
  Δ=.vech 62 5 (List.zipWith cR l hs) h::List.zipWith dd l hs:=by
 have hm:(l.map aw).length=l.length:=by simp
 refine ah func34 ntmps34 ?_;refine GL.Af rfl ⟨by omega,by omega⟩ ?_;intro a c;refine cE ?_;refine D ?_
 refine GW.loop (fun k:Nat=>l.length - k) (fun k fr F=>∃ R Z hs,fr=[.sl 5 (l.map aw),U,U,.v (.slice a (l.map aw).length c),.v (ii (k:Nat)),U,U,U,U,U,U,U,U,U,U,U,U,U,U,U,U,U,U]/\F=.vech 62 5 R (.slice a (l.map aw).length c)::List.zipWith dd (l.take k) hs/\k<=l.length/\hs.length=k /\
  (∀ (i:Nat) x y,l[i]?=some x->hs[i]?=some y->Hd x.kids.length y)/\R=List.zipWith cR (l.take k) hs++List.replicate (l.length - k) Z) 0 ?_ ?_
 ·exact ⟨_,_,Wk.aE ao,_,_,[],rfl,rfl,aM _,rfl,(fun i x y _ h=>by simp at h),by rw [hm];rfl⟩
 rintro k _ _ ⟨R,Z,hs,rfl,rfl,hk,FA,MF,hR⟩
 have me:R.length=l.length:=by rw [hR,aU,lR,cS,List.length_replicate];omega
 have ef:R.length=(l.map aw).length:=by rw [hm];exact me
 by_cases ak:k < l.length
 ·have hx:l[k]?=some l[k]:=by simp [ak]
  have hr:(l.map aw)[k]?=some (aw l[k]):=by rw [aV,hx];rfl
  have dH:decide ((k:Int) < ((l.map aw).length:Int))=true:=by rw [hm];simpa using ak
  have hex:=he _ (bF hx);have hc:=Qk l[k] hex
  have ji:l.take (k+1)=l.take k++[l[k]]:=by rw [cm,hx];rfl
  have MV:∀ {γ:Type} (f:Nd->Value->γ) (h:Value),List.zipWith f (l.take (k+1)) (hs++[h])=List.zipWith f (l.take k) hs++[f l[k] h]:=fun f h=>by
   rw [ji,List.zipWith_append (by rw [cS];omega)];rfl
  have bY:∀ h,R.set k (cR l[k] h)=List.zipWith cR (l.take (k+1)) (hs++[h])++List.replicate (l.length - (k+1)) Z:=fun h=>by
   have hz:(List.zipWith cR (l.take k) hs).length=k:=by rw [lR,cS];omega
   rw [hR,MV,show l.length - k=(l.length - (k+1))+1 by omega,List.replicate_succ,List.set_append_right _ _ G,hz,iJ,List.set_cons_zero];simp
  have Pd:∀ h,Hd l[k].kids.length h->∀ (i:Nat) x y,l[i]?=some x->(hs++[h])[i]?=some y->Hd x.kids.length y:=fun h hh i x y L I=>by
   by_cases hik:i < hs.length
   ·rw [ff hik] at I;exact MF i x y L I
   ·have h3:=(bp I).1;rw [aU,List.length_singleton] at h3
    have:i=k:=by omega
    subst this;rw [eE G,FA,iJ] at I;rw [hx] at L
    cases L;cases I;exact hh
  clear hR;have UC:=MV dd;unfold cR dd at hc;generalize hlx:l[k]=x at *;refine D ?_;refine cD [] hc ?_;rintro _ _ ⟨_,⟨a1,c1,rfl⟩,rfl,rfl⟩;refine eO ?_;refine D ?_;refine lx ?_;refine D ?_;refine ⟨k+1,⟨_,_,Wk.aE ao,_,Z,hs++[_],rfl,?_,ak,by simp [FA],Pd _ ⟨a1,c1,rfl⟩,bY _⟩,by show l.length - (k+1) < l.length - k;omega⟩;rw [UC];rfl
 ·have dH:decide ((k:Int) < ((l.map aw).length:Int))=false:=by rw [hm];simpa using ak
  have my:k=l.length:=by omega
  subst my;rw [b7,iJ,List.replicate_zero,cq] at hR;subst hR;rw [b7];refine cl ?_;refine D ?_;refine nW ?_;refine Bn 0 rfl dF rfl (fun x hx=>?_) ⟨_,hs,⟨_,_,by rw [hm]⟩,FA,MF,rfl,rfl⟩
  rcases dA hx with rfl | hx
  ·rfl
  ·obtain ⟨i,hi⟩:=List.getElem?_of_mem hx;rw [List.getElem?_zipWith] at hi;split at hi
   ·cases hi;rfl
   ·cases hi
def dK (p:Src) (hg ha hf hn:Value) (fs ns:List Value):List Ob :=
 .vech 9 1 (bA p.globals) hg::.vech 56 2 (p.arrays.map az) ha::.vech 58 3 (List.zipWith fL p.fns fs) hf::(List.zipWith fK p.fns fs++.vech 62 5 (List.zipWith cR p.nodes ns) hn::List.zipWith dd p.nodes ns)
structure nO (p:Src) (hg ha hf hn:Value) (fs ns:List Value):Prop where
 g:Hd p.globals.length hg
 a:Hd p.arrays.length ha
 f:Hd p.fns.length hf
 n:Hd p.nodes.length hn
 fl:fs.length=p.fns.length
 nl:ns.length=p.nodes.length
 fh:∀ (i:Nat) x y,p.fns[i]?=some x->fs[i]?=some y->Hd x.params.length y
 nh:∀ (i:Nat) x y,p.nodes[i]?=some x->ns[i]?=some y->Hd x.kids.length y
theorem ki {α:Type} {f:α->Value->Ob} (hf:∀ a h,(f a h).gC=true) {l:List α} {hs:List Value}:∀ x∈List.zipWith f l hs,x.gC=true:=fun x hx=>by
 obtain ⟨i,hi⟩:=List.getElem?_of_mem hx;rw [List.getElem?_zipWith] at hi;split at hi
 ·cases hi;exact hf _ _
 ·cases hi
theorem gQ (p:Src) (hg ha hf hn:Value) (fs ns:List Value):∀ x∈dK p hg ha hf hn fs ns,x.gC=true:=fun x hx=>by
 unfold dK at hx
 rcases dA hx with rfl | hx
 ·rfl
 rcases dA hx with rfl | hx
 ·rfl
 rcases dA hx with rfl | hx
 ·rfl
 rcases oI hx with hx | hx
 ·exact ki (fun _ _=>rfl) x hx
 rcases dA hx with rfl | hx
 ·rfl
 ·exact ki (fun _ _=>rfl) x hx
theorem Hg {α:Type} {f:α->Value->Ob} (hf:∀ a h,(f a h).gC=true) {l:List α} {hs:List Value} (r:Nat->Nat):(List.zipWith f l hs).map (Ob.dX r)=List.zipWith f l hs:=by
 refine (List.map_congr_left fun x hx=>?_).trans (List.map_id _);have:=ki hf x hx
 cases x <;> first | rfl | cases this
theorem Ci (x:Src) (hg:x.globals.length<=1048576) (ha:x.arrays.length<=1048576) (hf:x.fns.length<=1048576) (MC:∀ f∈x.fns,f.params.length<=1048576) (hn:x.nodes.length<=1048576) (FG:∀ n∈x.nodes,n.kids.length<=1048576) :
  GC prog 8 [.agg (ar x)] [] fun g Δ=>∃ hg ha hf hn fs ns,nO x hg ha hf hn fs ns/\g=.agg [.v hg,.v ha,.v hf,.v hn]/\Δ=dK x hg ha hf hn fs ns:=by
 have h0:=An x.globals hg;have L:=Lg x.arrays ha;have I:=Ta x.fns hf MC;have h3:=N1 x.nodes hn FG;refine ah func8 ntmps8 ?_;refine cD [] h0 ?_;rintro _ _ ⟨_,⟨a0,c0,rfl⟩,rfl,rfl⟩;refine eO ?_;refine D ?_;refine cD [] L ?_;rintro _ _ ⟨_,⟨a1,c1,rfl⟩,rfl,rfl⟩;refine eO ?_;refine D ?_;refine cD [] I ?_;rintro _ _ ⟨_,fs,⟨a2,c2,rfl⟩,e1,e2,rfl,rfl⟩;rw [List.map_cons,Hg (fun _ _=>rfl)];refine eO ?_;refine D ?_;refine cD [] h3 ?_;rintro _ _ ⟨_,ns,⟨a3,c3,rfl⟩,e3,e4,rfl,rfl⟩;rw [List.map_cons,Hg (fun _ _=>rfl)];refine eO ?_;refine D ?_;refine nW ?_;refine Kb 3 rfl dF rfl rfl rfl rfl ?_ ?_
 ·exact gQ x _ _ _ _ fs ns
 ·exact ⟨_,_,_,_,fs,ns,⟨⟨_,_,rfl⟩,⟨_,_,rfl⟩,⟨_,_,rfl⟩,⟨_,_,rfl⟩,e1,e3,e2,e4⟩,rfl,rfl⟩
end Go.Xg
set_option maxHeartbeats 1000000
namespace Go.Xg
open GV (U)
open Go.RowKit Go.Xw Go.Proofs Tryz
open Go.Xp (Tok Nd T)
open Go.Sp
attribute [local irreducible] GW GL GO YG GC GA be bd
theorem tS {α:Type} {l:List α} {q:α->Bool} {k:Nat} {x:α} (hx:l[k]?=some x) (hf:(l.take k).all q=true) (hb:q x=true):(l.take (k+1)).all q=true:=by
 rw [cm,hx,all_append,hf];simp [hb]
def idxOf (xs:List ae) (s:ae):Int:=match xs.findIdx? (fun x=>s==x) with | some i=>(i:Int) | none => -1
theorem RJ (xs:List ae) (s:ae) (hl:xs.length<=1099511627776):GF prog 91 [strs xs,.v (sv s)] [] (.v (ii (idxOf xs s))) []:=by
 refine ah func91 ntmps91 ?_;refine GW.range (xs.map fun s=>[GV.v (sv s)]).length (fun k fr F=>fr=[strs xs,.v (sv s),U,U,U,U,strs xs,.v (ii ((xs.map fun s=>[GV.v (sv s)]).length:Int)),.v (ii (k:Nat)),U,U,U,U,U,U,U,U,U,U]/\F=[]/\((xs.take k).all fun x=>!(s==x))=true) ?_ (by simpa using hl) ?_ ?_ ?_
 ·exact kQ
 ·exact iI
 ·rintro k _ _ ak ⟨rfl,rfl,hc⟩
  have ak:k < xs.length:=by simpa using ak
  have hx:xs[k]?=some xs[k]:=by simp [ak]
  have hr:(xs.map fun s=>[GV.v (sv s)])[k]?=some [.v (sv xs[k])]:=by simp [ak]
  cases hb:(s==xs[k]) with
  | true =>
   have hi:xs.findIdx? (fun x=>s==x)=some k:=by
    rw [List.findIdx?_eq_some_iff_getElem];refine ⟨ak,hb,fun j hj=>?_⟩;rw [gK] at hc;have:=hc xs[j] (by rw [List.mem_take_iff_getElem];exact ⟨j,by omega,rfl⟩);simpa using this
   unfold idxOf;rw [hi];generalize xs[k]=x at *;exact ay
  | false =>
   have r8:=tS (q:=fun x=>!(s==x)) hx hc (by rw [hb];rfl);generalize xs[k]=x at *;refine D ?_;exact ⟨rfl,rfl,_,_,Wk.aE ao,rfl,rfl,r8⟩
 ·rintro _ _ ⟨rfl,rfl,hc⟩;rw [lS (by simp)] at hc
  have hi:xs.findIdx? (fun x=>s==x)=none:=by
   rw [List.findIdx?_eq_none_iff];intro x hx;rw [gK] at hc;have:=hc x hx;simpa using this
  unfold idxOf;rw [hi];exact ay
theorem Pk (xs:List ae) (s:ae):decide (0<=idxOf xs s)=xs.contains s:=by
 unfold idxOf
 cases h:xs.findIdx? (fun x=>s==x) with
 | some i =>
  rw [List.findIdx?_eq_some_iff_getElem] at h;obtain ⟨L,I,_⟩:=h
  have h3:s=xs[i]:=by simpa using I
  have:xs.contains s=true:=by rw [nu,h3];exact List.getElem_mem _
  rw [this];simp
 | none =>
  rw [List.findIdx?_eq_none_iff] at h
  have:xs.contains s=false:=by
   cases hc:xs.contains s with
   | false=>rfl
   | true=>have:=h s (nu.1 hc);simp at this
  rw [this];rfl
theorem kp (xs:List ae) (s:ae) (hl:xs.length<=1099511627776):GF prog 39 [strs xs,.v (sv s)] [] (.v (.bool (xs.contains s))) []:=by
 have hi:=RJ xs s hl;rw [<-Pk];generalize idxOf xs s=i at *;refine ah func39 ntmps39 ?_;refine V [] hi ?_;exact al
end Go.Xg
namespace Go.Xg
open GV (U)
open Go.RowKit Go.Xw Go.Proofs Tryz
open Go.Xp (Tok Nd T bz one levels Ar)
open Go.Sp
attribute [local irreducible] GW GL GO YG GC GA be bd
theorem V2 (p:Src) (hp:p.nodes.length<=1000000000000) (hk:∀ n∈p.nodes,n.kids.length<=1000000000000):∀ (f a d:Nat) (e:Int),d<=801->pe p.nodes f a d=some e->GF prog 149 [.agg (ar p),.v (ii (a:Nat)),.v (ii (d:Nat))] [] (.v (ii e)) []:=by
 intro f
 induction f using Nat.strongRecOn with
 | _ f ih =>
 intro a d e hd h
 cases f with
 | zero=>simp [pe] at h
 | succ f =>
 rw [pe] at h;refine cY func149 ntmps149 ?_
 by_cases L:p.nodes.length<=a
 ·rw [ab (.inl L)] at h;cases h
  have c7:decide (((p.nodes.map aw).length:Int)<=(a:Int))=true:=by simpa using L
  exact ay
 have c7:decide (((p.nodes.map aw).length:Int)<=(a:Int))=false:=by simpa using L
 by_cases I:d > 800
 ·rw [ab (.inr I)] at h;cases h
  have q9:decide ((800:Int) < (d:Int))=true:=by simpa using by omega
  exact ay
 have q9:decide ((800:Int) < (d:Int))=false:=by simpa using by omega
 rw [M G] at h
 cases hn:p.nodes[a]? with
 | none=>rw [hn] at h;cases h
 | some n =>
 rw [hn] at h;simp only at h;have hr:=nm hn;have iT:=hk n (bF hn);refine D ?_
 refine GW.range (n.kids.map fun i=>[GV.v (ii i)]).length (fun k fr F=>∃ nx g,fr=[U,.v (ii (a:Nat)),.v (ii (d:Nat)),.loc 0 0,U,U,U,.v (ii nx),U,U,U,U,U,U,U,U,U,U,U,U,U,U,U,U,U,U,ints n.kids,.v (ii ((n.kids.map fun i=>[GV.v (ii i)]).length:Int)),.v (ii (k:Nat)),U,U,U,U,U,U,U,U,U,U,U,U,U,U,U] /\
   F=[.box 33 (ar p)]/\0<=nx/\g<=f/\om p.nodes g (n.kids.drop k) nx d=some e) ?_ (by simp;omega) ?_ ?_ ?_
 ·exact ⟨_,_,Wk.aE ao,_,f,rfl,rfl,by omega,aD _,h⟩
 ·rintro k _ _ ⟨_,_,rfl,rfl,_⟩;exact et
 ·rintro k _ _ ak ⟨nx,g,rfl,rfl,rh,hg,h⟩
  have ak:k < n.kids.length:=by simpa using ak
  have hx:n.kids[k]?=some n.kids[k]:=by simp [ak]
  rw [kW ak] at h;generalize n.kids[k]=x at *;have yD:=tH hx
  cases g with
  | zero=>simp [om] at h
  | succ g =>
  rw [om] at h
  by_cases hxn:x=nx
  ·subst hxn;rw [ab rfl] at h
   have hb:(x != x)=false:=by simp
   cases cz:pe p.nodes g x.toNat (d+1) with
   | none=>rw [cz] at h;cases h
   | some y =>
   rw [cz] at h;simp only at h;have zo:=ih g G x.toNat (d+1) y G cz;rw [Int.toNat_of_nonneg rh] at zo
   by_cases hy:y < 0
   ·rw [ab hy] at h;cases h
    have MS:decide (y < (0:Int))=true:=by simpa using hy
    refine D ?_;refine V [] zo ?_;exact al
   ·rw [M hy] at h
    have MS:decide (y < (0:Int))=false:=by simpa using hy
    refine D ?_;refine V [] zo ?_;exact ⟨rfl,rfl,_,_,Wk.aE ao,_,g,rfl,rfl,by omega,by omega,h⟩
  ·rw [M hxn] at h;cases h
   have hb:(x != nx)=true:=by simpa using hxn
   exact ay
 ·rintro _ _ ⟨nx,g,rfl,rfl,rh,hg,h⟩;rw [bP,List.drop_length] at h
  have l0:nx=e:=by cases g <;> (rw [om] at h;cases h;rfl)
  subst l0;exact ay
theorem WM (a n:Int) (s:ae) (ks:List Int) (l:List T) (hs:s.length<=1099511627776) (hl:l.length<=1099511627776) (ha:decide (a < 0)=false):GF prog 183 [.agg (cT (.mk ⟨1,a,n,s,ks⟩ l))] [] (.v (.bool (b9 (.mk ⟨1,a,n,s,ks⟩ l)))) []:=by
 have how:b9 (.mk ⟨1,a,n,s,ks⟩ l)=(decide ((0:Int)<=n)&&(decide (n<=2147483647)&&((s==[])&&((l.length:Int)==0)))):=by unfold b9 own;rw [M (by show ¬ (decide (a < 0)=true);rw [ha];decide)];rfl
 rw [how];refine cY func183 ntmps183 ?_
 cases h0:decide ((0:Int)<=n) with
 | false =>
  exact ay
 | true =>
  cases L:decide (n<=2147483647) with
  | false =>
   exact ay
  | true =>
   cases I:(s==[]) with
   | false =>
    exact ay
   | true =>
    refine D ?_;refine cv ?_;exact ⟨by first | rfl | (rw [aZ];rfl),rfl⟩
theorem WN (a:Int) (s:ae) (ks:List Int) (l:List T) (hs:s.length<=1099511627776) (hl:l.length<=1099511627776) (ha:decide (a < 0)=false):GF prog 183 [.agg (cT (.mk ⟨2,a,0,s,ks⟩ l))] [] (.v (.bool (b9 (.mk ⟨2,a,0,s,ks⟩ l)))) []:=by
 have how:b9 (.mk ⟨2,a,0,s,ks⟩ l)=(bt s&&((l.length:Int)==0)):=by unfold b9 own;rw [M (by show ¬ (decide (a < 0)=true);rw [ha];decide)];rfl
 rw [how];refine cY func183 ntmps183 ?_
 cases h0:bt s with
 | false =>
  refine D ?_;have hc:=eG s hs;rw [h0] at hc;refine V [] hc ?_;exact al
 | true =>
  refine D ?_;have hc:=eG s hs;rw [h0] at hc;refine V [] hc ?_;refine cv ?_;exact ⟨by first | rfl | (rw [aZ];rfl),rfl⟩
theorem WO (a:Int) (s:ae) (ks:List Int) (l:List T) (hs:s.length<=1099511627776) (hl:l.length<=1099511627776) (ha:decide (a < 0)=false):GF prog 183 [.agg (cT (.mk ⟨3,a,0,s,ks⟩ l))] [] (.v (.bool (b9 (.mk ⟨3,a,0,s,ks⟩ l)))) []:=by
 have how:b9 (.mk ⟨3,a,0,s,ks⟩ l)=(bt s&&(((l.length:Int)==1)&&bB 1 0 l)):=by unfold b9 own;rw [M (by show ¬ (decide (a < 0)=true);rw [ha];decide)];rfl
 rw [how];refine cY func183 ntmps183 ?_
 cases h0:bt s with
 | false =>
  refine D ?_;have hc:=eG s hs;rw [h0] at hc;refine V [] hc ?_;exact al
 | true =>
  cases L:((l.length:Int)==1) with
  | false =>
   have c7:((((aX l).length:Int)==1))=false:=by rw [<-aZ l] at L;exact L
   refine D ?_;have hc:=eG s hs;rw [h0] at hc;refine V [] hc ?_;exact al
  | true =>
   have c7:((((aX l).length:Int)==1))=true:=by rw [<-aZ l] at L;exact L
   refine D ?_;have hc:=eG s hs;rw [h0] at hc;refine V [] hc ?_;have hc:=fB (.mk ⟨3,a,0,s,ks⟩ l) 1 hl;refine V [] hc ?_;refine cv ?_;exact ⟨by first | rfl | (rw [aZ];rfl),rfl⟩
theorem WQ (a:Int) (s:ae) (ks:List Int) (l:List T) (hs:s.length<=1099511627776) (hl:l.length<=1099511627776) (ha:decide (a < 0)=false):GF prog 183 [.agg (cT (.mk ⟨4,a,0,s,ks⟩ l))] [] (.v (.bool (b9 (.mk ⟨4,a,0,s,ks⟩ l)))) []:=by
 have how:b9 (.mk ⟨4,a,0,s,ks⟩ l)=(bt s&&bB l.length 0 l):=by unfold b9 own;rw [M (by show ¬ (decide (a < 0)=true);rw [ha];decide)];rfl
 rw [how];refine cY func183 ntmps183 ?_
 cases h0:bt s with
 | false =>
  refine D ?_;have hc:=eG s hs;rw [h0] at hc;refine V [] hc ?_;exact al
 | true =>
  refine D ?_;have hc:=eG s hs;rw [h0] at hc;refine V [] hc ?_;have hc:=fB (.mk ⟨4,a,0,s,ks⟩ l) (aX l).length hl;refine V [] hc ?_;refine cv ?_;exact ⟨by first | rfl | (rw [aZ];rfl),rfl⟩
theorem WS (a:Int) (s:ae) (ks:List Int) (l:List T) (hs:s.length<=1099511627776) (hl:l.length<=1099511627776) (ha:decide (a < 0)=false):GF prog 183 [.agg (cT (.mk ⟨6,a,0,s,ks⟩ l))] [] (.v (.bool (b9 (.mk ⟨6,a,0,s,ks⟩ l)))) []:=by
 have how:b9 (.mk ⟨6,a,0,s,ks⟩ l)=(eZ s&&(((l.length:Int)==2)&&bB 2 0 l)):=by unfold b9 own;rw [M (by show ¬ (decide (a < 0)=true);rw [ha];decide)];rfl
 rw [how];refine cY func183 ntmps183 ?_
 cases h0:eZ s with
 | false =>
  refine D ?_;have hc:=uq s;rw [h0] at hc;refine V [] hc ?_;exact al
 | true =>
  cases L:((l.length:Int)==2) with
  | false =>
   have c7:((((aX l).length:Int)==2))=false:=by rw [<-aZ l] at L;exact L
   refine D ?_;have hc:=uq s;rw [h0] at hc;refine V [] hc ?_;exact al
  | true =>
   have c7:((((aX l).length:Int)==2))=true:=by rw [<-aZ l] at L;exact L
   refine D ?_;have hc:=uq s;rw [h0] at hc;refine V [] hc ?_;have hc:=fB (.mk ⟨6,a,0,s,ks⟩ l) 2 hl;refine V [] hc ?_;refine cv ?_;exact ⟨by first | rfl | (rw [aZ];rfl),rfl⟩
theorem WT (a:Int) (s:ae) (ks:List Int) (l:List T) (hs:s.length<=1099511627776) (hl:l.length<=1099511627776) (ha:decide (a < 0)=false):GF prog 183 [.agg (cT (.mk ⟨7,a,0,s,ks⟩ l))] [] (.v (.bool (b9 (.mk ⟨7,a,0,s,ks⟩ l)))) []:=by
 have how:b9 (.mk ⟨7,a,0,s,ks⟩ l)=(bt s&&(((l.length:Int)==1)&&bB 1 0 l)):=by unfold b9 own;rw [M (by show ¬ (decide (a < 0)=true);rw [ha];decide)];rfl
 rw [how];refine cY func183 ntmps183 ?_
 cases h0:bt s with
 | false =>
  refine D ?_;have hc:=eG s hs;rw [h0] at hc;refine V [] hc ?_;exact al
 | true =>
  cases L:((l.length:Int)==1) with
  | false =>
   have c7:((((aX l).length:Int)==1))=false:=by rw [<-aZ l] at L;exact L
   refine D ?_;have hc:=eG s hs;rw [h0] at hc;refine V [] hc ?_;exact al
  | true =>
   have c7:((((aX l).length:Int)==1))=true:=by rw [<-aZ l] at L;exact L
   refine D ?_;have hc:=eG s hs;rw [h0] at hc;refine V [] hc ?_;have hc:=fB (.mk ⟨7,a,0,s,ks⟩ l) 1 hl;refine V [] hc ?_;refine cv ?_;exact ⟨by first | rfl | (rw [aZ];rfl),rfl⟩
theorem WU (a:Int) (s:ae) (ks:List Int) (l:List T) (hs:s.length<=1099511627776) (hl:l.length<=1099511627776) (ha:decide (a < 0)=false):GF prog 183 [.agg (cT (.mk ⟨8,a,0,s,ks⟩ l))] [] (.v (.bool (b9 (.mk ⟨8,a,0,s,ks⟩ l)))) []:=by
 have how:b9 (.mk ⟨8,a,0,s,ks⟩ l)=(bt s&&(((l.length:Int)==2)&&bB 2 0 l)):=by unfold b9 own;rw [M (by show ¬ (decide (a < 0)=true);rw [ha];decide)];rfl
 rw [how];refine cY func183 ntmps183 ?_
 cases h0:bt s with
 | false =>
  refine D ?_;have hc:=eG s hs;rw [h0] at hc;refine V [] hc ?_;exact al
 | true =>
  cases L:((l.length:Int)==2) with
  | false =>
   have c7:((((aX l).length:Int)==2))=false:=by rw [<-aZ l] at L;exact L
   refine D ?_;have hc:=eG s hs;rw [h0] at hc;refine V [] hc ?_;exact al
  | true =>
   have c7:((((aX l).length:Int)==2))=true:=by rw [<-aZ l] at L;exact L
   refine D ?_;have hc:=eG s hs;rw [h0] at hc;refine V [] hc ?_;have hc:=fB (.mk ⟨8,a,0,s,ks⟩ l) 2 hl;refine V [] hc ?_;refine cv ?_;exact ⟨by first | rfl | (rw [aZ];rfl),rfl⟩
theorem Vf (a:Int) (s:ae) (ks:List Int) (l:List T) (hs:s.length<=1099511627776) (hl:l.length<=1099511627776) (ha:decide (a < 0)=false):GF prog 183 [.agg (cT (.mk ⟨10,a,0,s,ks⟩ l))] [] (.v (.bool (b9 (.mk ⟨10,a,0,s,ks⟩ l)))) []:=by
 have how:b9 (.mk ⟨10,a,0,s,ks⟩ l)=((s==[])&&(((l.length:Int)==2)&&bB 1 0 l)):=by unfold b9 own;rw [M (by show ¬ (decide (a < 0)=true);rw [ha];decide)];rfl
 rw [how];refine cY func183 ntmps183 ?_
 cases h0:(s==[]) with
 | false =>
  exact ay
 | true =>
  cases L:((l.length:Int)==2) with
  | false =>
   have c7:((((aX l).length:Int)==2))=false:=by rw [<-aZ l] at L;exact L
   exact ay
  | true =>
   have c7:((((aX l).length:Int)==2))=true:=by rw [<-aZ l] at L;exact L
   refine D ?_;have hc:=fB (.mk ⟨10,a,0,s,ks⟩ l) 1 hl;refine V [] hc ?_;refine cv ?_;exact ⟨by first | rfl | (rw [aZ];rfl),rfl⟩
theorem Vg (a:Int) (s:ae) (ks:List Int) (l:List T) (hs:s.length<=1099511627776) (hl:l.length<=1099511627776) (ha:decide (a < 0)=false):GF prog 183 [.agg (cT (.mk ⟨11,a,0,s,ks⟩ l))] [] (.v (.bool (b9 (.mk ⟨11,a,0,s,ks⟩ l)))) []:=by
 have how:b9 (.mk ⟨11,a,0,s,ks⟩ l)=((s==[])&&(((l.length:Int)==1)&&bB 1 0 l)):=by unfold b9 own;rw [M (by show ¬ (decide (a < 0)=true);rw [ha];decide)];rfl
 rw [how];refine cY func183 ntmps183 ?_
 cases h0:(s==[]) with
 | false =>
  exact ay
 | true =>
  cases L:((l.length:Int)==1) with
  | false =>
   have c7:((((aX l).length:Int)==1))=false:=by rw [<-aZ l] at L;exact L
   exact ay
  | true =>
   have c7:((((aX l).length:Int)==1))=true:=by rw [<-aZ l] at L;exact L
   refine D ?_;have hc:=fB (.mk ⟨11,a,0,s,ks⟩ l) 1 hl;refine V [] hc ?_;refine cv ?_;exact ⟨by first | rfl | (rw [aZ];rfl),rfl⟩
theorem Vh (a:Int) (s:ae) (ks:List Int) (l:List T) (hs:s.length<=1099511627776) (hl:l.length<=1099511627776) (ha:decide (a < 0)=false):GF prog 183 [.agg (cT (.mk ⟨12,a,0,s,ks⟩ l))] [] (.v (.bool (b9 (.mk ⟨12,a,0,s,ks⟩ l)))) []:=by
 have how:b9 (.mk ⟨12,a,0,s,ks⟩ l)=((s==[])&&(((l.length:Int)==1)&&bB 1 0 l)):=by unfold b9 own;rw [M (by show ¬ (decide (a < 0)=true);rw [ha];decide)];rfl
 rw [how];refine cY func183 ntmps183 ?_
 cases h0:(s==[]) with
 | false =>
  exact ay
 | true =>
  cases L:((l.length:Int)==1) with
  | false =>
   have c7:((((aX l).length:Int)==1))=false:=by rw [<-aZ l] at L;exact L
   exact ay
  | true =>
   have c7:((((aX l).length:Int)==1))=true:=by rw [<-aZ l] at L;exact L
   refine D ?_;have hc:=fB (.mk ⟨12,a,0,s,ks⟩ l) 1 hl;refine V [] hc ?_;refine cv ?_;exact ⟨by first | rfl | (rw [aZ];rfl),rfl⟩
theorem Vi (a:Int) (s:ae) (ks:List Int) (l:List T) (hs:s.length<=1099511627776) (hl:l.length<=1099511627776) (ha:decide (a < 0)=false):GF prog 183 [.agg (cT (.mk ⟨13,a,0,s,ks⟩ l))] [] (.v (.bool (b9 (.mk ⟨13,a,0,s,ks⟩ l)))) []:=by
 have how:b9 (.mk ⟨13,a,0,s,ks⟩ l)=(bt s&&(((l.length:Int)==1)&&bB 1 0 l)):=by unfold b9 own;rw [M (by show ¬ (decide (a < 0)=true);rw [ha];decide)];rfl
 rw [how];refine cY func183 ntmps183 ?_
 cases h0:bt s with
 | false =>
  refine D ?_;have hc:=eG s hs;rw [h0] at hc;refine V [] hc ?_;exact al
 | true =>
  cases L:((l.length:Int)==1) with
  | false =>
   have c7:((((aX l).length:Int)==1))=false:=by rw [<-aZ l] at L;exact L
   refine D ?_;have hc:=eG s hs;rw [h0] at hc;refine V [] hc ?_;exact al
  | true =>
   have c7:((((aX l).length:Int)==1))=true:=by rw [<-aZ l] at L;exact L
   refine D ?_;have hc:=eG s hs;rw [h0] at hc;refine V [] hc ?_;have hc:=fB (.mk ⟨13,a,0,s,ks⟩ l) 1 hl;refine V [] hc ?_;refine cv ?_;exact ⟨by first | rfl | (rw [aZ];rfl),rfl⟩
theorem WR (a:Int) (s:ae) (ks:List Int) (l:List T) (hs:s.length<=1099511627776) (hl:l.length<=1099511627776) (ha:decide (a < 0)=false):GF prog 183 [.agg (cT (.mk ⟨5,a,0,s,ks⟩ l))] [] (.v (.bool (b9 (.mk ⟨5,a,0,s,ks⟩ l)))) []:=by
 have how:b9 (.mk ⟨5,a,0,s,ks⟩ l)=((s==[45] || s==[33] || s==[126])&&(((l.length:Int)==1)&&bB 1 0 l)):=by unfold b9 own;rw [M (by show ¬ (decide (a < 0)=true);rw [ha];decide)];rfl
 rw [how];refine cY func183 ntmps183 ?_
 cases L:(s==[45]) with
 | true =>
  cases h4:((l.length:Int)==1) with
  | false =>
   have Mp:(((aX l).length:Int)==1)=false:=by rw [<-aZ l] at h4;exact h4
   exact ay
  | true =>
   have Mp:(((aX l).length:Int)==1)=true:=by rw [<-aZ l] at h4;exact h4
   refine D ?_;have hc:=fB (.mk ⟨5,a,0,s,ks⟩ l) 1 hl;refine V [] hc ?_;exact al
 | false =>
  cases I:(s==[33]) with
  | true =>
   cases h4:((l.length:Int)==1) with
   | false =>
    have Mp:(((aX l).length:Int)==1)=false:=by rw [<-aZ l] at h4;exact h4
    exact ay
   | true =>
    have Mp:(((aX l).length:Int)==1)=true:=by rw [<-aZ l] at h4;exact h4
    refine D ?_;have hc:=fB (.mk ⟨5,a,0,s,ks⟩ l) 1 hl;refine V [] hc ?_;exact al
  | false =>
   cases h3:(s==[126]) with
   | false =>
    exact ay
   | true =>
    cases h4:((l.length:Int)==1) with
    | false =>
     have Mp:(((aX l).length:Int)==1)=false:=by rw [<-aZ l] at h4;exact h4
     exact ay
    | true =>
     have Mp:(((aX l).length:Int)==1)=true:=by rw [<-aZ l] at h4;exact h4
     refine D ?_;have hc:=fB (.mk ⟨5,a,0,s,ks⟩ l) 1 hl;refine V [] hc ?_;exact al
theorem WV (a:Int) (s:ae) (ks:List Int) (l:List T) (hs:s.length<=1099511627776) (hl:l.length<=1099511627776) (ha:decide (a < 0)=false):GF prog 183 [.agg (cT (.mk ⟨9,a,0,s,ks⟩ l))] [] (.v (.bool (b9 (.mk ⟨9,a,0,s,ks⟩ l)))) []:=by
 have how:b9 (.mk ⟨9,a,0,s,ks⟩ l)=((s==[])&&((((l.length:Int)==2) || ((l.length:Int)==3))&&bB 1 0 l)):=by unfold b9 own;rw [M (by show ¬ (decide (a < 0)=true);rw [ha];decide)];rfl
 rw [how];refine cY func183 ntmps183 ?_
 cases h0:(s==[]) with
 | false =>
  exact ay
 | true =>
  cases L:((l.length:Int)==2) with
  | true =>
   have c7:(((aX l).length:Int)==2)=true:=by rw [<-aZ l] at L;exact L
   refine D ?_;have hc:=fB (.mk ⟨9,a,0,s,ks⟩ l) 1 hl;refine V [] hc ?_;exact al
  | false =>
   have c7:(((aX l).length:Int)==2)=false:=by rw [<-aZ l] at L;exact L
   cases I:((l.length:Int)==3) with
   | true =>
    have q9:(((aX l).length:Int)==3)=true:=by rw [<-aZ l] at I;exact I
    refine D ?_;have hc:=fB (.mk ⟨9,a,0,s,ks⟩ l) 1 hl;refine V [] hc ?_;exact al
   | false =>
    have q9:(((aX l).length:Int)==3)=false:=by rw [<-aZ l] at I;exact I
    exact ay
theorem Vj (a:Int) (s:ae) (ks:List Int) (l:List T) (hs:s.length<=1099511627776) (hl:l.length<=1099511627776) (ha:decide (a < 0)=false):GF prog 183 [.agg (cT (.mk ⟨14,a,0,s,ks⟩ l))] [] (.v (.bool (b9 (.mk ⟨14,a,0,s,ks⟩ l)))) []:=by
 have how:b9 (.mk ⟨14,a,0,s,ks⟩ l)=((l.all fun x=>gU x.n.kind)&&(s==[])):=by unfold b9 own;rw [M (by show ¬ (decide (a < 0)=true);rw [ha];decide)];rfl
 rw [how];refine ah func183 ntmps183 ?_;refine GW.range (aX l).length (fun k fr F=>∃ n,fr=[U,.loc 0 0,U,.loc 1 0,U,U,U,U,U,U,U,U,U,U,U,U,U,U,U,U,U,U,U,U,U,U,U,U,U,U,U,U,U,U,U,U,U,U,U,U,U,U,U,U,U,U,U,U,U,U,U,U,U,U,U,U,U,U,U,U,U,U,U,U,U,U,U,U,U,U,U,U,U,U,U,U,U,U,U,U,U,U,U,U,U,U,U,U,U,U,U,U,U,U,U,U,U,U,U,U,U,U,U,U,U,U,U,U,U,U,U,U,U,U,U,U,U,U,U,U,U,U,U,U,U,U,U,U,U,U,U,U,U,U,U,U,U,U,U,U,U,U,U,U,U,U,U,U,U,U,U,U,U,U,U,U,U,U,U,U,U,U,U,U,U,U,U,U,U,U,U,U,U,U,U,U,.sl 6 (aX l),.v (ii ((aX l).length:Int)),.v (ii (k:Nat)),U,U,U,U,U,U,U,U,U,U,U,U]/\F=[.box 65 (cT (.mk ⟨14,a,0,s,ks⟩ l)),.box 62 n]/\n=aw ⟨14,a,0,s,ks⟩/\((l.take k).all fun x=>gU x.n.kind)=true) ?_ (by rw [aZ];exact hl) ?_ ?_ ?_
 ·exact ⟨_,_,Wk.aE ao,_,rfl,rfl,rfl,rfl⟩
 ·rintro k _ _ ⟨_,rfl,rfl,_⟩;exact et
 ·rintro k _ _ hk ⟨_,rfl,rfl,rfl,hf⟩
  have hk:k < l.length:=by rw [aZ] at hk;exact hk
  have hx:l[k]?=some l[k]:=by simp [hk]
  have hr:=dk hx;generalize l[k]=x at *;have he:=HD x.n.kind
  cases hb:gU x.n.kind with
  | true =>
   rw [hb] at he;refine D ?_;refine V [] he ?_;exact ⟨rfl,rfl,_,_,(Wk.cut (n:=2) (fO rfl) rfl).trans (Wk.aE ao),_,rfl,rfl,rfl,by rw [cm,hx,all_append,hf];simp only [Option.toList,all_cons,all_nil,hb];rfl⟩
  | false =>
   rw [hb] at he;refine D ?_;refine V [] he ?_;refine cv ?_
   have ha:(l.all fun x=>gU x.n.kind)=false:=by
    rw [all_eq_false];exact ⟨x,bF hx,by simp [hb]⟩
   rw [ha];exact ⟨rfl,rfl⟩
 ·rintro _ _ ⟨_,rfl,rfl,rfl,hf⟩
  have hf:(l.all fun x=>gU x.n.kind)=true:=by
   rw [lS (by rw [aZ];omega)] at hf;exact hf
  rw [hf];exact ay
theorem WZ (k a n:Int) (s:ae) (ks:List Int) (l:List T) (hk:k=1\/k=2\/k=3\/k=4\/k=5\/k=6\/k=7\/k=8\/k=9\/k=10\/k=11\/k=12\/k=13\/k=14\/True) (hx:¬ (k=1\/k=2\/k=3\/k=4\/k=5\/k=6\/k=7\/k=8\/k=9\/k=10\/k=11\/k=12\/k=13\/k=14)) (ha:decide (a < 0)=false) (hn:(n != 0)=false):GF prog 183 [.agg (cT (.mk ⟨k,a,n,s,ks⟩ l))] [] (.v (.bool (b9 (.mk ⟨k,a,n,s,ks⟩ l)))) []:=by
 simp only [not_or] at hx;obtain ⟨L,I,h3,h4,h5,h6,h7,h8,h9,mc,pz,o0,fm,Br⟩:=hx
 have L:(k==1)=false:=by simpa using L
 have h1x:(k != 1)=true:=by simp only [bne,L];rfl
 have I:(k==2)=false:=by simpa using I
 have h3:(k==3)=false:=by simpa using h3
 have h4:(k==4)=false:=by simpa using h4
 have h5:(k==5)=false:=by simpa using h5
 have h6:(k==6)=false:=by simpa using h6
 have h7:(k==7)=false:=by simpa using h7
 have h8:(k==8)=false:=by simpa using h8
 have h9:(k==9)=false:=by simpa using h9
 have mc:(k==10)=false:=by simpa using mc
 have pz:(k==11)=false:=by simpa using pz
 have o0:(k==12)=false:=by simpa using o0
 have fm:(k==13)=false:=by simpa using fm
 have Br:(k==14)=false:=by simpa using Br
 have how:b9 (.mk ⟨k,a,n,s,ks⟩ l)=false:=by
  show own ⟨k,a,n,s,ks⟩ _ _ _=_;simp [own,L,I,h3,h4,h5,h6,h7,h8,h9,mc,pz,o0,fm,Br]
 rw [how];refine ah func183 ntmps183 ?_;exact al
theorem WW (k a n:Int) (s:ae) (ks:List Int) (l:List T) (ha:decide (a < 0)=true):GF prog 183 [.agg (cT (.mk ⟨k,a,n,s,ks⟩ l))] [] (.v (.bool (b9 (.mk ⟨k,a,n,s,ks⟩ l)))) []:=by
 have how:b9 (.mk ⟨k,a,n,s,ks⟩ l)=false:=by
  show own ⟨k,a,n,s,ks⟩ _ _ _=_;unfold own;rw [ab ha]
 rw [how];refine ah func183 ntmps183 ?_;exact al
theorem WY (k a n:Int) (s:ae) (ks:List Int) (l:List T) (ha:decide (a < 0)=false) (hk:(k != 1)=true) (hn:(n != 0)=true):GF prog 183 [.agg (cT (.mk ⟨k,a,n,s,ks⟩ l))] [] (.v (.bool (b9 (.mk ⟨k,a,n,s,ks⟩ l)))) []:=by
 have how:b9 (.mk ⟨k,a,n,s,ks⟩ l)=false:=by
  show own ⟨k,a,n,s,ks⟩ _ _ _=_;unfold own;rw [M (by show ¬ (decide (a < 0)=true);rw [ha];decide),ab (by show ((k != 1)&&(n != 0))=true;rw [hk,hn];rfl)]
 rw [how];refine ah func183 ntmps183 ?_;exact al
theorem Py (t:T) (hs:t.n.s.length<=1099511627776) (hl:t.kids.length<=1099511627776):GF prog 183 [.agg (cT t)] [] (.v (.bool (b9 t))) []:=by
 obtain ⟨⟨k,a,n,s,ks⟩,l⟩:=t
 cases ha:decide (a < 0) with
 | true=>exact WW k a n s ks l ha
 | false =>
 by_cases xI:k=1
 ·subst xI;exact WM a n s ks l hs hl ha
 by_cases hn:n=0
 ·subst hn
  by_cases h:k=1\/k=2\/k=3\/k=4\/k=5\/k=6\/k=7\/k=8\/k=9\/k=10\/k=11\/k=12\/k=13\/k=14
  ·rcases h with rfl | rfl | rfl | rfl | rfl | rfl | rfl | rfl | rfl | rfl | rfl | rfl | rfl | rfl
   ·exact absurd rfl xI
   ·exact WN a s ks l hs hl ha
   ·exact WO a s ks l hs hl ha
   ·exact WQ a s ks l hs hl ha
   ·exact WR a s ks l hs hl ha
   ·exact WS a s ks l hs hl ha
   ·exact WT a s ks l hs hl ha
   ·exact WU a s ks l hs hl ha
   ·exact WV a s ks l hs hl ha
   ·exact Vf a s ks l hs hl ha
   ·exact Vg a s ks l hs hl ha
   ·exact Vh a s ks l hs hl ha
   ·exact Vi a s ks l hs hl ha
   ·exact Vj a s ks l hs hl ha
  ·exact WZ k a 0 s ks l (by simp) h ha rfl
 ·exact WY k a n s ks l ha (by simpa using xI) (by simpa using hn)
theorem LB (l:List T):cy l=l.all dv:=by
 induction l with
 | nil=>simp [cy]
 | cons a l ih=>simp [cy,ih]
theorem Pw:∀ (sz:Nat) (t:T),SizeOf.sizeOf t<=sz->GG t->GF prog 150 [.agg (cT t)] [] (.v (.bool (dv t))) []:=by
 intro sz
 induction sz with
 | zero=>intro t h _;cases t;simp at h
 | succ sz ih =>
 intro t dE jh;obtain ⟨n,l⟩:=t;have aaB:=jh;rw [GG] at jh;obtain ⟨hs,hl,hm⟩:=jh
 have how:dv (.mk n l)=(cy l&&b9 (.mk n l)):=by rw [dv]
 rw [how];rw [LB];refine ah func150 ntmps150 ?_;refine GW.range (aX l).length (fun k fr F=>fr=[U,.loc 0 0,U,U,U,U,.sl 6 (aX l),.v (ii ((aX l).length:Int)),.v (ii (k:Nat)),U,U,U,U,U,U,U,U,U]/\F=[.box 65 (cT (.mk n l))]/\((l.take k).all dv)=true) ?_ (by rw [aZ];exact hl) ?_ ?_ ?_
 ·exact kQ
 ·exact iI
 ·rintro k _ _ hk ⟨rfl,rfl,hf⟩
  have hk:k < l.length:=by rw [aZ] at hk;exact hk
  have hx:l[k]?=some l[k]:=by simp [hk]
  have CP:=bF hx;have ak:=List.sizeOf_lt_of_mem CP;have hr:=dk hx;have he:=ih l[k] (by simp at dE;omega) (GJ hm CP);generalize l[k]=x at *
  cases hb:dv x with
  | true =>
   rw [hb] at he;refine D ?_;refine V [] he ?_;exact ⟨rfl,rfl,_,_,(Wk.cut (n:=1) (fO rfl) rfl).trans (Wk.aE ao),rfl,rfl,by rw [cm,hx,all_append,hf];simp only [Option.toList,all_cons,all_nil,hb];rfl⟩
  | false =>
   rw [hb] at he;refine D ?_;refine V [] he ?_;refine cv ?_
   have ha:(l.all dv)=false:=by
    rw [all_eq_false];exact ⟨x,bF hx,by simp [hb]⟩
   rw [ha];exact ⟨rfl,rfl⟩
 ·rintro _ _ ⟨rfl,rfl,hf⟩
  have hf:(l.all dv)=true:=by
   rw [lS (by rw [aZ];omega)] at hf;exact hf
  rw [hf];refine D ?_;refine V [] (Py (.mk n l) hs hl) ?_;exact al
theorem Pv (t:T) (h:GG t):GF prog 150 [.agg (cT t)] [] (.v (.bool (dv t))) []:=Pw _ t (aD _) h
structure Cd (p:Src):Prop where
 globals:p.globals.length<=1000000000000/\∀ s∈p.globals,s.length<=1000000000000
 arrays:p.arrays.length<=1000000000000/\∀ a∈p.arrays,a.name.length<=1000000000000
 fns:p.fns.length<=1000000000000/\∀ f∈p.fns,f.name.length<=1000000000000/\f.params.length<=1000000000000/\∀ s∈f.params,s.length<=1000000000000
 nodes:p.nodes.length<=1000000000000/\∀ n∈p.nodes,n.s.length<=1000000000000/\n.kids.length<=1000000000000
theorem Jp {l:List ae} {i:Nat} {s:ae} (h:l[i]?=some s):(l.map fun s=>[GV.v (sv s)])[i]?=some [.v (sv s)]:=by rw [aV,h];rfl
theorem B6 {l:List Ar} {i:Nat} {s:Ar} (h:l[i]?=some s):(l.map az)[i]?=some (az s):=by rw [aV,h];rfl
theorem sB {l:List Go.Sp.Fn} {i:Nat} {s:Go.Sp.Fn} (h:l[i]?=some s):(l.map au)[i]?=some (au s):=by rw [aV,h];rfl
theorem vD {α:Type} {l:List α} {q:α->Bool} {k:Nat} {x:α} (hx:l[k]?=some x) (hb:q x=false):l.all q=false:=by
 rw [all_eq_false];exact ⟨x,bF hx,by simp [hb]⟩
theorem BW (p:Src) (hp:Cd p) (b:Bool) (h:oV p=some b):GF prog 104 [.agg (ar p)] [] (.v (.bool b)) []:=by
 unfold oV at h;refine ah func104 ntmps104 ?_;refine GW.range (p.globals.map fun s=>[GV.v (sv s)]).length (fun k fr F=>fr=[U,.loc 0 0,U,.v (ii 0),U,U,U,U,U,U,U,U,U,U,U,strs p.globals,.v (ii ((p.globals.map fun s=>[GV.v (sv s)]).length:Int)),.v (ii (k:Nat)),U,U,U,U,U,U,U,U,U,U,U,U,U,U,U,U,U,U,U,U,U,U,U,U,U,U,U,U,U,U,U,U,U,U,U,U,U,U,U,U,U,U,U,U,U,U,U,U,U,U,U,U,U,U,U,U,U,U,U,U,U,U,U,U,U,U,U,U,U,U,U,U,U,U,U,U,U,U,U,U,U,U,U,U,U,U,U]/\F=[.box 33 (ar p)]/\((p.globals.take k).all bt)=true) ?_ (by simpa using by have:=hp.globals.1;omega) ?_ ?_ ?_
 ·exact kQ
 ·exact iI
 ·rintro k _ _ hk ⟨rfl,rfl,hf⟩
  have hk:k < p.globals.length:=by simpa using hk
  have hx:p.globals[k]?=some p.globals[k]:=by simp [hk]
  have hr:=Jp hx;have hl:=hp.globals.2 _ (bF hx);generalize p.globals[k]=x at *;have he:=eG x G
  cases hb:bt x with
  | true =>
   rw [hb] at he;refine D ?_;refine V [] he ?_;exact ⟨rfl,rfl,_,_,Wk.aE ao,rfl,rfl,tS hx hf hb⟩
  | false =>
   rw [hb] at he;rw [ab (show cQ p.globals=false from vD hx hb)] at h;cases h;refine D ?_;refine V [] he ?_;exact al
 ·rintro _ _ ⟨rfl,rfl,hf⟩;rw [lS (by simp)] at hf;rw [M (by rw [show cQ p.globals=true from hf];decide)] at h;refine D ?_;refine GW.range (p.arrays.map az).length (fun k fr F=>fr=[U,.loc 0 0,U,.v (ii 0),U,U,U,U,U,U,U,U,U,U,U,U,U,U,U,U,U,U,U,U,U,U,.sl 2 (p.arrays.map az),.v (ii ((p.arrays.map az).length:Int)),.v (ii (k:Nat)),U,U,U,U,U,U,U,U,U,U,U,U,U,U,U,U,U,U,U,U,U,U,U,U,U,U,U,U,U,U,U,U,U,U,U,U,U,U,U,U,U,U,U,U,U,U,U,U,U,U,U,U,U,U,U,U,U,U,U,U,U,U,U,U,U,U,U,U,U,U,U,U,U,U,U,U]/\F=[.box 33 (ar p)]/\((p.arrays.take k).all pd)=true) ?_ (by simpa using by have:=hp.arrays.1;omega) ?_ ?_ ?_
  ·exact kQ
  ·exact iI
  ·rintro k _ _ hk ⟨rfl,rfl,hf⟩
   have hk:k < p.arrays.length:=by simpa using hk
   have hx:p.arrays[k]?=some p.arrays[k]:=by simp [hk]
   have hr:=B6 hx;have hl:=hp.arrays.2 _ (bF hx);generalize p.arrays[k]=x at *;have he:=eG x.name G
   cases hb:bt x.name with
   | false =>
    rw [hb] at he;rw [ab (vD hx (by simp [pd,hb]))] at h;cases h;refine D ?_;refine V [] he ?_;exact al
   | true =>
    rw [hb] at he
    cases L:decide (x.size < 0) with
    | true =>
     rw [ab (vD hx (by simp only [pd,hb,L];rfl))] at h;cases h;refine D ?_;refine V [] he ?_;exact al
    | false =>
     cases I:decide (2147483647 < x.size) with
     | true =>
      rw [ab (vD hx (by simp only [pd,hb,L,I];rfl))] at h;cases h;refine D ?_;refine V [] he ?_;exact al
     | false =>
      refine D ?_;refine V [] he ?_;exact ⟨rfl,rfl,_,_,(Wk.cut (n:=1) (fO rfl) rfl).trans (Wk.aE ao),rfl,rfl,tS hx hf (by simp only [pd,hb,L,I];rfl)⟩
  ·rintro _ _ ⟨rfl,rfl,hf⟩;rw [lS (by simp)] at hf;rw [M (by rw [hf];decide)] at h;refine D ?_;refine GW.range (p.fns.map au).length (fun k fr F=>∃ nx,fr=[U,.loc 0 0,U,.v (ii nx),U,U,U,U,U,U,U,U,U,U,U,U,U,U,U,U,U,U,U,U,U,U,U,U,U,U,U,U,U,U,U,U,U,U,U,U,U,U,U,U,U,U,U,U,.sl 3 (p.fns.map au),.v (ii ((p.fns.map au).length:Int)),.v (ii (k:Nat)),U,U,U,U,U,U,U,U,U,U,U,U,U,U,U,U,U,U,U,U,U,U,U,U,U,U,U,U,U,U,U,U,U,U,U,U,U,U,U,U,U,U,U,U,U,U,U,U,U,U,U,U,U,U]/\F=[.box 33 (ar p)]/\0<=nx/\(match gM p.nodes (p.fns.drop k) nx with | none=>none | some none=>some false | some (some next)=>some (next==(p.nodes.length:Int)&&decide (next<=800)))=some b) ?_ (by simpa using by have:=hp.fns.1;omega) ?_ ?_ ?_
   ·exact ⟨_,_,Wk.aE ao,_,rfl,rfl,Int.le_refl _,h⟩
   ·rintro k _ _ ⟨_,rfl,rfl,_⟩;exact et
   ·clear h hf;rintro k _ _ hk ⟨nx,rfl,rfl,rh,h⟩
    have hk:k < p.fns.length:=by simpa using hk
    have hx:p.fns[k]?=some p.fns[k]:=by simp [hk]
    have hr:=sB hx;have hl:=hp.fns.2 _ (bF hx);rw [kW hk,gM] at h;generalize p.fns[k]=x at *
    cases he:pe p.nodes (fN p.nodes) nx.toNat 0 with
    | none=>rw [he] at h;cases h
    | some e =>
    rw [he] at h;simp only at h;have w9:=V2 p hp.nodes.1 (fun n hn=>(hp.nodes.2 n hn).2) _ _ 0 _ G he;rw [Int.toNat_of_nonneg rh] at w9;have cV:=eG x.name G
    by_cases L:x.body=nx
    ·have c7:(x.body != nx)=false:=by simpa using L
     cases hb:bt x.name with
     | false =>
      rw [hb] at cV;rw [ab (.inr (.inl hb))] at h;cases h;refine D ?_;refine V [] w9 ?_;refine V [] cV ?_;exact al
     | true =>
      rw [hb] at cV
      by_cases I:e < 0
      ·have q9:decide (e < 0)=true:=by simpa using I
       rw [ab (.inr (.inr I))] at h;cases h;refine D ?_;refine V [] w9 ?_;refine V [] cV ?_;exact al
      ·have q9:decide (e < 0)=false:=by simpa using I
       rw [M (by rw [hb];simp [L,I])] at h;refine D ?_;refine V [] w9 ?_;refine V [] cV ?_;refine GW.range (x.params.map fun s=>[GV.v (sv s)]).length (fun j fr F=>fr=[U,.loc 0 0,U,.v (ii nx),U,U,U,U,U,.loc 1 0,.v (ii e),U,U,U,U,U,U,U,U,U,U,U,U,U,U,U,U,U,U,U,U,U,U,U,U,U,U,U,U,U,U,U,U,U,U,U,U,U,.sl 3 (p.fns.map au),.v (ii ((p.fns.map au).length:Int)),.v (ii (k:Nat)),U,U,U,U,U,U,U,U,U,U,U,U,U,U,U,U,U,U,U,U,U,strs x.params,.v (ii ((x.params.map fun s=>[GV.v (sv s)]).length:Int)),.v (ii (j:Nat)),U,U,U,U,U,U,U,U,U,U,U,U,U,U,U,U,U,U,U,U,U,U,U,U,U,U,U,U,U,U]/\F=[.box 33 (ar p),.box 58 (au x)]/\((x.params.take j).all bt)=true) ?_ (by simpa using by omega) ?_ ?_ ?_
       ·exact kQ
       ·exact iI
       ·rintro j _ _ hj ⟨rfl,rfl,hf⟩
        have hj:j < x.params.length:=by simpa using hj
        have rn:x.params[j]?=some x.params[j]:=by simp [hj]
        have Q4:=Jp rn;have o8:=hl.2.2 _ (bF rn);generalize x.params[j]=y at *;have bV:=eG y G
        cases hb:bt y with
        | true =>
         rw [hb] at bV;refine D ?_;refine V [] bV ?_;exact ⟨rfl,rfl,_,_,Wk.aE ao,rfl,rfl,tS rn hf hb⟩
        | false =>
         rw [hb] at bV;rw [ab (show cQ x.params=false from vD rn hb)] at h;cases h;refine D ?_;refine V [] bV ?_;exact al
       ·rintro _ _ ⟨rfl,rfl,hf⟩;rw [lS (by simp)] at hf;rw [M (by rw [show cQ x.params=true from hf];decide)] at h
        cases hs:sub p.nodes (fN p.nodes) nx.toNat with
        | none=>rw [hs] at h;cases h
        | some t =>
        rw [hs] at h;simp only at h;have qB:=EM p (fun n hn=>(hp.nodes.2 n hn).2) _ _ _ hs;rw [Int.toNat_of_nonneg rh] at qB;have aY:=Pv t ((VB (fun n hn=>by have:=hp.nodes.2 n hn;omega) _).1 _ _ hs)
        by_cases h3:t.n.kind=14
        ·have kX:(t.n.kind != 14)=false:=by simpa using h3
         cases hb:dv t with
         | false =>
          rw [hb] at aY;rw [ab (.inr hb)] at h;cases h;refine D ?_;refine V [] qB ?_;refine V [] aY ?_;exact al
         | true =>
          rw [hb] at aY;rw [M (by rw [hb];simp [h3])] at h;refine D ?_;refine V [] qB ?_;refine V [] aY ?_;exact ⟨rfl,rfl,_,_,(Wk.cut (n:=1) (fO rfl) rfl).trans (Wk.aE ao),_,rfl,rfl,by omega,h⟩
        ·have kX:(t.n.kind != 14)=true:=by simpa using h3
         rw [ab (.inl h3)] at h;cases h;refine D ?_;refine V [] qB ?_;exact al
    ·have c7:(x.body != nx)=true:=by simpa using L
     rw [ab (.inl L)] at h;cases h;refine D ?_;refine V [] w9 ?_;exact al
   ·clear h hf;rintro _ _ ⟨nx,rfl,rfl,rh,h⟩;rw [bP,List.drop_length,gM] at h;simp only at h;cases h
    cases L:(nx==(p.nodes.length:Int)) with
    | false =>
     have c7:(nx==((p.nodes.map aw).length:Int))=false:=by rw [bP];exact L
     exact ay
    | true =>
     have c7:(nx==((p.nodes.map aw).length:Int))=true:=by rw [bP];exact L
     exact ay
def nN (k:Int) (s:ae):Int:=if k=6 then (match levels.findIdx? (fun l=>l.contains s) with | some i=>(i:Int) | none => -1) else 9
theorem Ky (t:T):GF prog 260 [.agg (cT t)] [] (.v (.int .i64 (nN t.n.kind t.n.s))) []:=by
 refine cY func260 ntmps260 ?_
 by_cases h6:t.n.kind=6
 ·have h6':(t.n.kind != 6)=false:=by simpa using h6
  unfold nN;rw [ab h6];refine D ?_;refine V [] kx ?_;refine GW.range (levels.map fun l=>[strs l]).length (fun k fr F=>fr=[U,.loc 0 0,U,U,U,U,U,U,U,U,U,.sl 1 (levels.map fun l=>[strs l]),.v (ii ((levels.map fun l=>[strs l]).length:Int)),.v (ii (k:Nat)),U,U,U,U,U,U,U,U,U,U,U]/\F=[.box 65 (cT t)]/\((levels.take k).any fun l=>l.contains t.n.s)=false) ?_ aR ?_ ?_ ?_
  ·exact kQ
  ·exact iI
  ·rintro k _ _ hk ⟨rfl,rfl,hf⟩
   have hk:k < levels.length:=by simpa using hk
   have hx:levels[k]?=some levels[k]:=by simp [hk]
   have hr:(levels.map fun l=>[strs l])[k]?=some [strs levels[k]]:=by simp [hk]
   have Ad:levels[k].length<=1099511627776:=by
    have:∀ l∈levels,l.length<=1099511627776:=by decide
    exact this _ (List.getElem_mem hk)
   have zY:levels[k].contains t.n.s=true->levels.findIdx? (fun l=>l.contains t.n.s)=some k:=by
    intro hc;rw [List.findIdx?_eq_some_iff_getElem];refine ⟨hk,hc,fun j hj=>?_⟩;rw [List.any_eq_false] at hf;refine hf _ ?_;rw [List.mem_take_iff_getElem];exact ⟨j,by omega,rfl⟩
   generalize levels[k]=x at *;have hh:=jo x t.n.s Ad
   cases hb:x.contains t.n.s with
   | true =>
    rw [hb] at hh;rw [zY hb];refine D ?_;refine V [] hh ?_;exact al
   | false =>
    rw [hb] at hh;refine D ?_;refine V [] hh ?_;exact ⟨rfl,rfl,_,_,Wk.aE ao,rfl,rfl,by rw [cm,hx,List.any_append,hf];simp only [Option.toList,List.any_cons,List.any_nil,hb];rfl⟩
  ·rintro _ _ ⟨rfl,rfl,hf⟩;rw [lS (by simp)] at hf
   have hn:levels.findIdx? (fun l=>l.contains t.n.s)=none:=by
    rw [List.findIdx?_eq_none_iff];intro x hx;rw [List.any_eq_false] at hf;simpa using hf x hx
   rw [hn];exact ay
 ·have h6':(t.n.kind != 6)=true:=by simpa using h6
  unfold nN;rw [M h6];refine D ?_;refine V [] kx ?_;exact al
end Go.Xg
namespace Go.Xg
open Go.RowKit Go.Xw Go.Proofs Tryz
open Go.Xp (Tok Nd T bz one levels Ar zK c6 pQ)
open Go.Sp
attribute [local irreducible] GW GL GO YG GC GA be bd
theorem RP (n:Int):GF prog 285 [.v (ii n)] [] (.v (ii (n % 4294967296))) []:=by
 refine ah func285 ntmps285 ?_;exact al
theorem Tk (n:Int):GF prog 275 [.v (ii n)] [] (.v (ii (zK n))) []:=by
 unfold zK
 have hb:0<=n % 4294967296/\n % 4294967296 < 4294967296:=by omega
 have hp:=RP n;generalize n % 4294967296=m at *;refine cY func275 ntmps275 ?_
 by_cases h:m > 2147483647
 ·have h':decide ((2147483647:Int) < m)=true:=by simpa using h
  rw [ab h];refine D ?_;refine V [] hp ?_;exact al
 ·have h':decide ((2147483647:Int) < m)=false:=by simpa using h
  rw [M h];refine D ?_;refine V [] hp ?_;exact al
theorem yS (k:Nat) (h:k<=57):[[GV.v (.int .u8 (k:Int))]]=[UInt8.ofNat k].map fun c=>[GV.v (.int .u8 (c.toNat:Int))]:=by
 have:(UInt8.ofNat k).toNat=k:=by simp;omega
 simp [this]
theorem HA (n:Nat) (hn:n<=1099511627776):GF prog 276 [.v (ii (n:Int))] [] (.v (sv (c6 n))) []:=by
 induction n using Nat.strongRecOn with
 | _ n ih =>
 unfold c6;refine cY func276 ntmps276 ?_
 by_cases h:n < 10
 ·have h':decide ((n:Int) < 10)=true:=by simpa using by omega
  have hw:=yS (48+n) G;rw [Int.natCast_add] at hw;rw [dif_pos h];refine D ?_;refine cw ?_;exact ay
 ·have h':decide ((n:Int) < 10)=false:=by simpa using by omega
  rw [dif_neg h];have hc:=ih (n / 10) G G;have hl:=pQ (n / 10);have hw:=yS (48+n % 10) G;rw [Int.natCast_add] at hw;refine D ?_;refine aK (.q 0 (.q 1 (aC 3 4 (.f 2 (.a 7 (aC 8 3 .nil)) 7 (.q 8 (.a 2 (.q 9 (.q 10 .nil)))))))) ?_;refine aj ?_;refine GO.fork ?_ ?_
  ·refine aI [] hc ?_;refine eY ?_;refine aj ?_;exact ay
  ·refine eY ?_;refine aj ?_;refine aI [] hc ?_;exact ay
end Go.Xg
namespace Go.Xg
open Go.RowKit Go.Xw Go.Proofs Tryz
open Go.Xp (Tok Nd T bz one levels Ar zK c6 pQ E S er aS wt fj qZ ep bQ)
open Go.Sp
attribute [local irreducible] GW GL GO YG GC GA be bd
theorem eH {nd:Nd} {l l':List T} {k v:Int} {s:ae} (h:er (.mk nd l)=.mk ⟨k,0,v,s,[]⟩ l'):nd.kind=k/\nd.n=v/\nd.s=s/\aS l=l':=by
 rw [er] at h
 injection h with L I
 injection L with a b c d e
 exact ⟨a,c,d,I⟩
theorem wY {l:List T} {x:T} (h:aS l=[x]):∃ t,l=[t]/\er t=x:=by
 match l,h with
 | [t],h=>rw [aS,aS] at h;injection h with L;exact ⟨t,rfl,L⟩
 | [],h=>rw [aS] at h;cases h
 | t::u::r,h=>rw [aS,aS] at h;injection h with L I;cases I
theorem CH {l:List T} {x y:T} (h:aS l=[x,y]):∃ t u,l=[t,u]/\er t=x/\er u=y:=by
 match l,h with
 | t::r,h =>
  rw [aS] at h;injection h with L I
  obtain ⟨u,rfl,h3⟩:=wY I;exact ⟨t,u,rfl,L,h3⟩
 | [],h=>rw [aS] at h;cases h
theorem Ye {l:List T} {x y z:T} (h:aS l=[x,y,z]):∃ t u w,l=[t,u,w]/\er t=x/\er u=y/\er w=z:=by
 match l,h with
 | t::r,h =>
  rw [aS] at h;injection h with L I
  obtain ⟨u,w,rfl,h3,h4⟩:=CH I;exact ⟨t,u,w,rfl,L,h3,h4⟩
 | [],h=>rw [aS] at h;cases h
theorem Qg {a:E} (h:a.ok=true) {t:T} (ht:er t=a.tree):nN t.n.kind t.n.s=(a.lv:Int):=by
 obtain ⟨nd,l⟩:=t
 cases a with
 | bin s a b =>
  obtain ⟨L,_,I,_⟩:=eH ht;simp only [E.ok,aH] at h;have h9:=(Go.Xp.qe h.1.1).1;simp only [T.n,L,I,nN,ab,E.lv];unfold ep at h9 |-
  cases hf:levels.findIdx? (fun l=>l.contains s) with
  | none=>rw [hf] at h9;exact absurd h9 aR
  | some i=>rfl
 | num n=>obtain ⟨L,_⟩:=eH ht;simp only [T.n,L,nN];rfl
 | name n=>obtain ⟨L,_⟩:=eH ht;simp only [T.n,L,nN];rfl
 | at_ s a=>obtain ⟨L,_⟩:=eH ht;simp only [T.n,L,nN];rfl
 | call s a=>obtain ⟨L,_⟩:=eH ht;simp only [T.n,L,nN];rfl
 | un s a=>obtain ⟨L,_⟩:=eH ht;simp only [T.n,L,nN];rfl
theorem rP {a:E} (h:a.ok=true) {t:T} (ht:er t=a.tree):GF prog 260 [.agg (cT t)] [] (.v (ii (a.lv:Int))) []:=by
 have:=Ky t;rw [Qg h ht] at this;exact this
theorem Ds (n:Int) (h:0<=n/\n<=2147483647):GF prog 261 [.v (ii n)] [] (.v (sv (c6 n.toNat))) []:=by
 have hw:=Tk n
 have pE:zK n=n:=by unfold zK;rw [show n % 4294967296=n by omega,M G]
 rw [pE] at hw;have hd:=HA n.toNat G;rw [Int.toNat_of_nonneg h.1] at hd
 have h':decide (n < 0)=false:=by simpa using h.1
 refine ah func261 ntmps261 ?_;refine V [] hw ?_;refine V [] hd ?_;exact al
abbrev lim:Nat:=1000000000000
def se (a:E):Prop:=∀ (t:T) (k:Nat),a.ok=true->er t=a.tree->wt a.tree<=lim->¬ a.lv < k->GF prog 227 [.agg (cT t),.v (ii (k:Int))] [] (.v (sv a.bu)) []
def pk (a:E):Prop:=∀ (t:T) (k:Nat),a.ok=true->er t=a.tree->wt a.tree<=lim->GF prog 227 [.agg (cT t),.v (ii (k:Int))] [] (.v (sv (qZ a.lv k a.bu))) []
theorem se.p {a:E} (C:se a):pk a:=by
 intro t k ho ht hb;unfold qZ
 by_cases h:a.lv < k
 ·rw [ab h]
  have h':decide ((a.lv:Int) < (k:Int))=true:=by simpa using h
  have hl:=(E.len a ho).1;have h0:=C t 0 ho ht hb G;have QR:=hb;unfold lim at QR;generalize a.bu=x at *;refine ah func227 ntmps227 ?_;refine V [] (rP ho ht) ?_;refine V [] h0 ?_;exact al
 ·rw [M h];exact C t k ho ht hb h
theorem Nc (n:Int):se (.num n):=by
 intro t k ho ht hb h
 have h':decide (((E.num n).lv:Int) < (k:Int))=false:=by simpa using h
 have hg:=rP ho ht;obtain ⟨⟨kk,aa,vv,ss,ks⟩,l⟩:=t;obtain ⟨L,I,h3,hl⟩:=eH ht;simp only at L I h3;subst L I h3;simp only [E.ok,aH] at ho;have hn:=Ds vv ⟨nw ho.1,nw ho.2⟩;rw [E.bu];simp only [cT,T.n,T.kids] at hg |-;refine ah func227 ntmps227 ?_;refine V [] hg ?_;refine V [] hn ?_;exact al
theorem KE (s:ae):se (.name s):=by
 intro t k ho ht hb h
 have h':decide (((E.name s).lv:Int) < (k:Int))=false:=by simpa using h
 have hg:=rP ho ht;obtain ⟨⟨kk,aa,vv,ss,ks⟩,l⟩:=t;obtain ⟨L,I,h3,hl⟩:=eH ht;simp only at L I h3;subst L I h3;rw [E.bu];simp only [cT,T.n,T.kids] at hg |-;refine ah func227 ntmps227 ?_;refine V [] hg ?_;exact al
theorem PE (s:ae) (a:E) (C:pk a):se (.at_ s a):=by
 intro t k ho ht hb h
 have h':decide (((E.at_ s a).lv:Int) < (k:Int))=false:=by simpa using h
 have hg:=rP ho ht;obtain ⟨⟨kk,aa,vv,ss,ks⟩,l⟩:=t;obtain ⟨L,I,h3,hl⟩:=eH ht;simp only at L I h3;subst L I h3;obtain ⟨x,rfl,hx⟩:=wY hl;simp only [E.ok,aH] at ho;rw [E.tree,wt] at hb;simp only [fj,lim] at hb;have hc:=C x 0 ho.2 hx (by unfold lim;omega);unfold qZ at hc;rw [M G] at hc;have hle:=(E.len a ho.2).1;have hr:(aX [x])[0]?=some (cT x):=dk rfl;rw [E.bu];generalize a.bu=y at *;simp only [cT,T.n,T.kids] at hg |-;refine ah func227 ntmps227 ?_;refine V [] hg ?_;refine aK (aC 0 8 (.a 8 (aC 9 3 .nil))) ?_;refine aj ?_;refine aI [] hc ?_;exact ay
theorem PF (s:ae) (a:E) (C:pk a):se (.un s a):=by
 intro t k ho ht hb h
 have h':decide (((E.un s a).lv:Int) < (k:Int))=false:=by simpa using h
 have hg:=rP ho ht;obtain ⟨⟨kk,aa,vv,ss,ks⟩,l⟩:=t;obtain ⟨L,I,h3,hl⟩:=eH ht;simp only at L I h3;subst L I h3;obtain ⟨x,rfl,hx⟩:=wY hl;simp only [E.ok,aH] at ho;rw [E.tree,wt] at hb;simp only [fj,lim] at hb;have hc:=C x 9 ho.2 hx (by unfold lim;omega);have hle:=(E.len a ho.2).1;have AK:=Go.Xp.tC a.lv 9 a.bu;have hr:(aX [x])[0]?=some (cT x):=dk rfl;rw [E.bu];generalize qZ a.lv 9 a.bu=y at *;simp only [cT,T.n,T.kids] at hg |-;refine ah func227 ntmps227 ?_;refine V [] hg ?_;refine aK (aC 0 8 (.a 8 (.q 9 (.a 10 (.q 11 (.q 12 .nil)))))) ?_;refine aj ?_;refine aI [] kx ?_;refine aI [] hc ?_;exact ay
theorem Nb (s:ae) (a b:E) (Ca:pk a) (Cb:pk b):se (.bin s a b):=by
 intro t k ho ht hb h
 have h':decide (((E.bin s a b).lv:Int) < (k:Int))=false:=by simpa using h
 have hg:=rP ho ht;obtain ⟨⟨kk,aa,vv,ss,ks⟩,l⟩:=t;obtain ⟨L,I,h3,hl⟩:=eH ht;simp only at L I h3;subst L I h3;obtain ⟨x,y,rfl,hx,hy⟩:=CH hl;simp only [E.ok,aH] at ho;rw [E.tree,wt] at hb;simp only [fj,lim] at hb;have Uh:=Ca x (ep ss) ho.1.2 hx (by unfold lim;omega);have zW:=Cb y (ep ss+1) ho.2 hy (by unfold lim;omega);have II:=(Go.Xp.qe ho.1.1).1;have hle:=(E.len a ho.1.2).1;have AK:=Go.Xp.tC a.lv (ep ss) a.bu;have Y5:=(E.len b ho.2).1;have aal:=Go.Xp.tC b.lv (ep ss+1) b.bu;have hr:(aX [x,y])[0]?=some (cT x):=dk rfl;have ea:(aX [x,y])[1]?=some (cT y):=dk rfl;rw [E.bu];simp only [E.lv] at hg h';generalize qZ a.lv (ep ss) a.bu=u at *;generalize qZ b.lv (ep ss+1) b.bu=w at *;simp only [cT,T.n,T.kids] at hg |-;refine ah func227 ntmps227 ?_;refine V [] hg ?_;refine V [] hg ?_;refine aK (aC 0 5 (aC 7 3 (aC 12 6 (.a 5 (.q 6 (.q 10 (.q 11 (.a 18 (.q 19 (.q 20 .nil)))))))))) ?_;refine aj ?_;refine aI [] Uh ?_;refine aI [] zW ?_;exact ay
end Go.Xg
namespace Go.Xg
open GV (U)
open Go.RowKit Go.Xw Go.Proofs Tryz
open Go.Xp (Tok Nd T bz one levels Ar c6 E S er aS wt fj qZ ep bQ BS xe)
open Go.Sp
attribute [local irreducible] GW GL GO YG GC GA be bd
def JT (b:Bool) (a:E):Prop:=∀ t,er t=a.tree->GF prog 184 [.agg (cT t),.v (.bool b)] [] (.v (sv (a.out b))) []
theorem L1:∀ {ts:List T} {es:List E} (h:aS ts=E.trees es),ts.length=es.length/\∀ (k:Nat) t a,ts[k]?=some t->es[k]?=some a->er t=a.tree
 | [],[],_=>⟨rfl,fun k t a h=>by simp at h⟩
 | [],a::l,h=>by rw [aS,E.trees] at h;cases h
 | t::r,[],h=>by rw [aS,E.trees] at h;cases h
 | t::r,a::l,h=>by
  rw [aS,E.trees] at h
  injection h with L I
  obtain ⟨h3,h4⟩:=L1 I;refine ⟨by simp [h3],fun k t' a' ht ha=>?_⟩
  cases k with
  | zero=>cases ht;cases ha;exact L
  | succ k=>exact h4 k t' a' (by simpa using ht) (by simpa using ha)
theorem D2 (b:Bool) (es:List E) (C:∀ a∈es,JT b a) (ts:List T) (ui:aS ts=E.trees es) (hb:(bQ (es.map (E.out b))).length<=lim) (hn:es.length<=lim) :
  GF prog 262 [.sl 6 (aX ts),.v (.bool b)] [] (.v (sv (bQ (es.map (E.out b))))) []:=by
 obtain ⟨hlen,uV⟩:=L1 ui;unfold lim at hb hn;refine ah func262 ntmps262 ?_;refine GW.range (aX ts).length (fun k fr F=>∃ y,fr=[U,.v (.bool b),U,U,U,.v (sv y),U,U,.sl 6 (aX ts),.v (ii ((aX ts).length:Int)),.v (ii (k:Nat)),U,U,U,U,U,U,U,U,U,U,U,U,U,U,U]/\F=[]/\y=bQ ((es.map (E.out b)).take k)) ?_ (by rw [aZ];omega) ?_ ?_ ?_
 ·exact ⟨_,_,Wk.aE ao,[],rfl,rfl,by simp [bQ]⟩
 ·rintro k _ _ ⟨y,rfl,rfl,_⟩;exact et
 ·rintro k _ _ hk ⟨y,rfl,rfl,hy⟩
  have hk:k < es.length:=by rw [aZ,hlen] at hk;exact hk
  have xJ:k < ts.length:=by omega
  have hx:es[k]?=some es[k]:=by simp [hk]
  have ht:ts[k]?=some ts[k]:=by simp [xJ]
  have he:=uV k _ _ ht hx;have hr:=dk ht;have hc:=C _ (bF hx) _ he;have yv:=xe (es.map (E.out b)) (k+1);have Y0:=xe (es.map (E.out b)) k
  have ji:(es.map (E.out b)).take (k+1)=(es.map (E.out b)).take k++[es[k].out b]:=by
   rw [cm,aV,hx];rfl
  rw [ji] at yv;generalize ts[k]=t at *;generalize es[k]=a at *;generalize a.out b=x at *
  by_cases h0:k=0
  ·subst h0
   have ub:decide ((0:Int) < ((0:Nat):Int))=false:=by decide
   have hj:bQ ((es.map (E.out b)).take 0++[x])=[]++x:=by simp [bQ]
   have QW:bQ ((es.map (E.out b)).take 0)=[]:=by simp [bQ]
   rw [QW] at hy;subst hy;rw [hj] at yv
   have yv:x.length<=(bQ (es.map (E.out b))).length:=by simpa using yv
   refine D ?_;refine V [] hc ?_;exact ⟨rfl,rfl,_,_,(Wk.cut (n:=0) (fO rfl) rfl).trans (Wk.aE ao),_,rfl,rfl,by rw [ji,hj]⟩
  ·have ub:decide ((0:Int) < (k:Int))=true:=by simpa using by omega
   have cr:(es.map (E.out b)).take k≠[]:=by
    intro h;rw [List.take_eq_nil_iff] at h
    rcases h with h | h
    ·exact h0 h
    ·rw [List.map_eq_nil_iff] at h;subst h;simp at hk
   have hj:=BS cr x;rw [hj] at yv;rw [<-hy] at yv hj Y0;simp only [aU,length_cons,length_nil] at yv;refine D ?_;refine V [] hc ?_;exact ⟨rfl,rfl,_,_,(Wk.cut (n:=0) (fO rfl) rfl).trans (Wk.aE ao),_,rfl,rfl,by rw [ji,hj]⟩
 ·rintro _ _ ⟨y,rfl,rfl,hy⟩;have:(es.map (E.out b)).take (aX ts).length=es.map (E.out b):=lS (by rw [aZ,hlen];simp);rw [this] at hy;subst hy;exact ay
theorem pk.out {a:E} (C:pk a) (ho:a.ok=true) (hb:wt a.tree<=lim):JT true a:=by
 intro t ht;have h0:=C t 0 ho ht hb;unfold qZ at h0;rw [M G] at h0;show GF _ _ _ _ (.v (sv a.bu)) _;refine ah func184 ntmps184 ?_;refine V [] h0 ?_;exact al
theorem Dm:∀ l:List E,l.length<=fj (E.trees l)
 | []=>aM _
 | a::l=>by
  have:=Dm l;rw [E.trees,fj,length_cons]
  have:1<=wt a.tree:=by cases a <;> (rw [E.tree,wt];omega)
  omega
theorem Dn:∀ {l:List E} {a:E},a∈l->wt a.tree<=fj (E.trees l)
 | [],_,h=>by cases h
 | b::l,a,h=>by
  rw [E.trees,fj]
  rcases dA h with rfl | h
  ·omega
  ·have:=Dn h;omega
theorem C4:∀ {l:List E} {a:E},E.db l=true->a∈l->a.ok=true
 | [],_,_,h=>by cases h
 | b::l,a,ho,h=>by
  simp only [E.db,aH] at ho
  rcases dA h with rfl | h
  ·exact ho.1
  ·exact C4 ho.2 h
theorem KD (s:ae) (es:List E) (C:∀ a∈es,pk a):se (.call s es):=by
 intro t k ho ht hb h
 have h':decide (((E.call s es).lv:Int) < (k:Int))=false:=by simpa using h
 have hg:=rP ho ht;obtain ⟨⟨kk,aa,vv,ss,ks⟩,l⟩:=t;obtain ⟨L,I,h3,hl⟩:=eH ht;simp only at L I h3;subst L I h3;simp only [E.ok,aH] at ho;rw [E.tree,wt] at hb;have hle:=(E.lens es ho.2).1;have hn:=Dm es
 have FD:E.da es=es.map (E.out true):=by rw [E.Qm];rfl
 have hj:=D2 true es (fun a ha=>(C a ha).out (C4 ho.2 ha) (by have:=Dn ha;omega)) l hl (by rw [<-FD];omega) G;rw [<-FD] at hj;unfold lim at hb;simp only at hb;rw [E.bu];generalize bQ (E.da es)=y at *;simp only [cT,T.n,T.kids] at hg |-;refine ah func227 ntmps227 ?_;refine V [] hg ?_;refine aK (aC 0 6 (.a 6 (aC 7 3 .nil))) ?_;refine aj ?_;refine aI [] hj ?_;exact ay
mutual
theorem v8:∀ a:E,pk a
 | .num n=>(Nc n).p
 | .name s=>(KE s).p
 | .at_ s a=>(PE s a (v8 a)).p
 | .call s l=>(KD s l (IZ l)).p
 | .un s a=>(PF s a (v8 a)).p
 | .bin s a b=>(Nb s a b (v8 a) (v8 b)).p
theorem IZ:∀ l:List E,∀ a∈l,pk a
 | []=>fun a h=>by cases h
 | b::l=>fun a h=>by
  rcases dA h with h | h
  ·rw [h];exact v8 b
  ·exact IZ l a h
end
def mZ (a:E):Prop:=∀ (t:T),a.ok=true->er t=a.tree->wt a.tree<=lim->GF prog 228 [.agg (cT t)] [] (.v (sv a.full)) []
theorem mZ.out {a:E} (C:mZ a) (ho:a.ok=true) (hb:wt a.tree<=lim):JT false a:=by
 intro t ht;have h0:=C t ho ht hb;show GF _ _ _ _ (.v (sv a.full)) _;refine ah func184 ntmps184 ?_;refine V [] h0 ?_;exact al
theorem O8 (n:Int):mZ (.num n):=by
 intro t ho ht hb;obtain ⟨⟨kk,aa,vv,ss,ks⟩,l⟩:=t;obtain ⟨L,I,h3,hl⟩:=eH ht;simp only at L I h3;subst L I h3;simp only [E.ok,aH] at ho;have hn:=Ds vv ⟨nw ho.1,nw ho.2⟩;rw [E.full];simp only [cT,T.n,T.kids];refine ah func228 ntmps228 ?_;refine V [] hn ?_;exact al
theorem Mh (s:ae):mZ (.name s):=by
 intro t ho ht hb;obtain ⟨⟨kk,aa,vv,ss,ks⟩,l⟩:=t;obtain ⟨L,I,h3,hl⟩:=eH ht;simp only at L I h3;subst L I h3;rw [E.full];simp only [cT,T.n,T.kids];refine ah func228 ntmps228 ?_;exact al
theorem Sd (s:ae) (a:E) (C:mZ a):mZ (.at_ s a):=by
 intro t ho ht hb;obtain ⟨⟨kk,aa,vv,ss,ks⟩,l⟩:=t;obtain ⟨L,I,h3,hl⟩:=eH ht;simp only at L I h3;subst L I h3;obtain ⟨x,rfl,hx⟩:=wY hl;simp only [E.ok,aH] at ho;rw [E.tree,wt] at hb;simp only [fj,lim] at hb;have hc:=C x ho.2 hx (by unfold lim;omega);have hle:=(E.len a ho.2).2;have hr:(aX [x])[0]?=some (cT x):=dk rfl;rw [E.full];generalize a.full=y at *;simp only [cT,T.n,T.kids] at |-;refine ah func228 ntmps228 ?_;refine aK (aC 0 8 (.a 8 (aC 9 3 .nil))) ?_;refine aj ?_;refine aI [] hc ?_;exact ay
theorem Mg (s:ae) (es:List E) (C:∀ a∈es,mZ a):mZ (.call s es):=by
 intro t ho ht hb;obtain ⟨⟨kk,aa,vv,ss,ks⟩,l⟩:=t;obtain ⟨L,I,h3,hl⟩:=eH ht;simp only at L I h3;subst L I h3;simp only [E.ok,aH] at ho;rw [E.tree,wt] at hb;have hle:=(E.lens es ho.2).2;have hn:=Dm es
 have FD:E.th es=es.map (E.out false):=by rw [E.Mi];rfl
 have hj:=D2 false es (fun a ha=>(C a ha).out (C4 ho.2 ha) (by have:=Dn ha;omega)) l hl (by rw [<-FD];omega) G;rw [<-FD] at hj;unfold lim at hb;simp only at hb;rw [E.full];generalize bQ (E.th es)=y at *;simp only [cT,T.n,T.kids] at |-;refine ah func228 ntmps228 ?_;refine aK (aC 0 6 (.a 6 (aC 7 3 .nil))) ?_;refine aj ?_;refine aI [] hj ?_;exact ay
theorem Se (s:ae) (a:E) (C:mZ a):mZ (.un s a):=by
 intro t ho ht hb;obtain ⟨⟨kk,aa,vv,ss,ks⟩,l⟩:=t;obtain ⟨L,I,h3,hl⟩:=eH ht;simp only at L I h3;subst L I h3;obtain ⟨x,rfl,hx⟩:=wY hl;simp only [E.ok,aH] at ho;rw [E.tree,wt] at hb;simp only [fj,lim] at hb;have hc:=C x ho.2 hx (by unfold lim;omega);have hle:=(E.len a ho.2).2;have hr:(aX [x])[0]?=some (cT x):=dk rfl;rw [E.full];generalize a.full=y at *;simp only [cT,T.n,T.kids] at |-;refine ah func228 ntmps228 ?_;refine aK (aC 0 8 (.a 8 (aC 9 3 .nil))) ?_;refine aj ?_;refine aI [] hc ?_;exact ay
theorem O7 (s:ae) (a b:E) (Ca:mZ a) (Cb:mZ b):mZ (.bin s a b):=by
 intro t ho ht hb;obtain ⟨⟨kk,aa,vv,ss,ks⟩,l⟩:=t;obtain ⟨L,I,h3,hl⟩:=eH ht;simp only at L I h3;subst L I h3;obtain ⟨x,y,rfl,hx,hy⟩:=CH hl;simp only [E.ok,aH] at ho;rw [E.tree,wt] at hb;simp only [fj,lim] at hb;have Uh:=Ca x ho.1.2 hx (by unfold lim;omega);have zW:=Cb y ho.2 hy (by unfold lim;omega);have hle:=(E.len a ho.1.2).2;have Y5:=(E.len b ho.2).2;have hr:(aX [x,y])[0]?=some (cT x):=dk rfl;have ea:(aX [x,y])[1]?=some (cT y):=dk rfl;rw [E.full];generalize a.full=u at *;generalize b.full=w at *;simp only [cT,T.n,T.kids] at |-;refine ah func228 ntmps228 ?_;refine aK (aC 0 4 (aC 7 3 (aC 12 4 (.a 4 (.q 5 (.q 6 (.q 10 (.q 11 (.a 16 (aC 17 3 .nil)))))))))) ?_;refine aj ?_;refine aI [] Uh ?_;refine aI [] zW ?_;exact ay
mutual
theorem zk:∀ a:E,mZ a
 | .num n=>O8 n
 | .name s=>Mh s
 | .at_ s a=>Sd s a (zk a)
 | .call s l=>Mg s l (Mf l)
 | .un s a=>Se s a (zk a)
 | .bin s a b=>O7 s a b (zk a) (zk b)
theorem Mf:∀ l:List E,∀ a∈l,mZ a
 | []=>fun a h=>by cases h
 | b::l=>fun a h=>by
  rcases dA h with h | h
  ·rw [h];exact zk b
  ·exact Mf l a h
end
theorem qG (b:Bool) {a:E} (ho:a.ok=true) (hb:wt a.tree<=lim):JT b a:=by
 cases b with
 | true=>exact (v8 a).out ho hb
 | false=>exact (zk a).out ho hb
theorem jU (b:Bool) (a:E) (ho:a.ok=true):(a.out b).length+4<=wt a.tree:=by
 have:=E.len a ho
 cases b with
 | true=>exact this.1
 | false=>exact this.2
end Go.Xg
namespace Go.Xg
open GV (U)
open Go.RowKit Go.Xw Go.Proofs Tryz
open Go.Xp (Tok Nd T bz one levels Ar c6 E S er aS wt fj bU fA)
open Go.Sp
attribute [local irreducible] GW GL GO YG GC GA be bd
theorem JB (x:E->Go.Xp.ae):∀ (l:List S) (acc:Go.Xp.ae),acc.length<=(S.da x acc l).length
 | [],acc=>by rw [S.da];omega
 | a::l,acc=>by
  rw [S.da];have:=JB x l (acc++a.bu x++[32]);simp only [aU,length_cons,length_nil] at this;omega
def oe (b:Bool) (s:S):Prop:=∀ t,s.ok=true->er t=s.tree->wt s.tree<=lim->GF prog 151 [.agg (cT t),.v (.bool b)] [] (.v (sv (s.bu (E.out b)))) []
def vC (b:Bool) (l:List S):Prop:=∀ t,S.db l=true->er t=bU l->wt (bU l)<=lim->GF prog 151 [.agg (cT t),.v (.bool b)] [] (.v (sv (fA (E.out b) l))) []
theorem Jq:∀ {ts:List T} {es:List S} (h:aS ts=S.trees es),ts.length=es.length/\∀ (k:Nat) t a,ts[k]?=some t->es[k]?=some a->er t=a.tree
 | [],[],_=>⟨rfl,fun k t a h=>by simp at h⟩
 | [],a::l,h=>by rw [aS,S.trees] at h;cases h
 | t::r,[],h=>by rw [aS,S.trees] at h;cases h
 | t::r,a::l,h=>by
  rw [aS,S.trees] at h
  injection h with L I
  obtain ⟨h3,h4⟩:=Jq I;refine ⟨by simp [h3],fun k t' a' ht ha=>?_⟩
  cases k with
  | zero=>cases ht;cases ha;exact L
  | succ k=>exact h4 k t' a' (by simpa using ht) (by simpa using ha)
theorem G3:∀ {l:List S} {a:S},a∈l->wt a.tree<=fj (S.trees l)
 | [],_,h=>by cases h
 | b::l,a,h=>by
  rw [S.trees,fj]
  rcases dA h with rfl | h
  ·omega
  ·have:=G3 h;omega
theorem G2:∀ l:List S,l.length<=fj (S.trees l)
 | []=>aM _
 | a::l=>by
  have:=G2 l;rw [S.trees,fj,length_cons]
  have:1<=wt a.tree:=by cases a <;> (rw [S.tree,wt];omega)
  omega
theorem GK:∀ {l:List S} {a:S},S.db l=true->a∈l->a.ok=true
 | [],_,_,h=>by cases h
 | b::l,a,ho,h=>by
  simp only [S.db,aH] at ho
  rcases dA h with rfl | h
  ·exact ho.1
  ·exact GK ho.2 h
theorem Ou (b:Bool) (s:Go.Xp.ae) (a:E):oe b (.var s a):=by
 intro t ho ht hb;obtain ⟨⟨kk,aa,vv,ss,ks⟩,l⟩:=t;obtain ⟨L,I,h3,hl⟩:=eH ht;simp only at L I h3;subst L I h3;obtain ⟨x0,rfl,rm⟩:=wY hl;simp only [S.ok,aH] at ho;rw [S.tree,wt] at hb;simp only [fj,lim] at hb;have qx:=qG b (a:=a) ho.2 (by unfold lim;omega) x0 rm;have yx:=jU b a ho.2;have sr:(aX [x0])[0]?=some (cT x0):=dk rfl;rw [S.bu];generalize a.out b=y0 at *;simp only [cT,T.n,T.kids];refine ah func151 ntmps151 ?_;refine aK (aC 0 10 (.a 10 (aC 11 3 .nil))) ?_;refine aj ?_;refine aI [] qx ?_;exact ay
theorem Oq (b:Bool) (s:Go.Xp.ae) (a:E):oe b (.set s a):=by
 intro t ho ht hb;obtain ⟨⟨kk,aa,vv,ss,ks⟩,l⟩:=t;obtain ⟨L,I,h3,hl⟩:=eH ht;simp only at L I h3;subst L I h3;obtain ⟨x0,rfl,rm⟩:=wY hl;simp only [S.ok,aH] at ho;rw [S.tree,wt] at hb;simp only [fj,lim] at hb;have qx:=qG b (a:=a) ho.2 (by unfold lim;omega) x0 rm;have yx:=jU b a ho.2;have sr:(aX [x0])[0]?=some (cT x0):=dk rfl;rw [S.bu];generalize a.out b=y0 at *;simp only [cT,T.n,T.kids];refine ah func151 ntmps151 ?_;refine aK (aC 0 9 (.a 9 (aC 10 3 .nil))) ?_;refine aj ?_;refine aI [] qx ?_;exact ay
theorem Om (b:Bool) (s:Go.Xp.ae) (a:E) (c:E):oe b (.put s a c):=by
 intro t ho ht hb;obtain ⟨⟨kk,aa,vv,ss,ks⟩,l⟩:=t;obtain ⟨L,I,h3,hl⟩:=eH ht;simp only at L I h3;subst L I h3;obtain ⟨x0,x1,rfl,rm,vX⟩:=CH hl;simp only [S.ok,aH] at ho;rw [S.tree,wt] at hb;simp only [fj,lim] at hb;have qx:=qG b (a:=a) ho.2.1 (by unfold lim;omega) x0 rm;have yx:=jU b a ho.2.1;have sr:(aX [x0,x1])[0]?=some (cT x0):=dk rfl;have uc:=qG b (a:=c) ho.2.2 (by unfold lim;omega) x1 vX;have fR:=jU b c ho.2.2;have jg:(aX [x0,x1])[1]?=some (cT x1):=dk rfl;rw [S.bu];generalize a.out b=y0 at *;generalize c.out b=y1 at *;simp only [cT,T.n,T.kids];refine ah func151 ntmps151 ?_;refine aK (aC 0 9 (aC 12 5 (.a 9 (.q 10 (.q 11 (.a 17 (aC 18 3 .nil))))))) ?_;refine aj ?_;refine aI [] qx ?_;refine aI [] uc ?_;exact ay
theorem Oj (b:Bool) (c:E) (p:List S) (Cp:vC b p):oe b (.if1 c p):=by
 intro t ho ht hb;obtain ⟨⟨kk,aa,vv,ss,ks⟩,l⟩:=t;obtain ⟨L,I,h3,hl⟩:=eH ht;simp only at L I h3;subst L I h3;obtain ⟨x0,x1,rfl,rm,vX⟩:=CH hl;simp only [S.ok,aH] at ho;rw [S.tree,wt] at hb;simp only [fj,lim] at hb;have qx:=qG b (a:=c) ho.1 (by unfold lim;omega) x0 rm;have yx:=jU b c ho.1;have sr:(aX [x0,x1])[0]?=some (cT x0):=dk rfl;have uc:=Cp x1 ho.2 vX (by unfold lim bU;omega);have fR:=Go.Xp.tB (E.out b) (jU b) ho.2;rw [bU] at fR;have jg:(aX [x0,x1])[1]?=some (cT x1):=dk rfl;rw [S.bu];generalize c.out b=y0 at *
 change GF _ _ _ _ (.v (sv _)) _ at uc
 unfold fA at uc fR;generalize S.da (E.out b) [123,32] p++[125]=y1 at *;simp only [cT,T.n,T.kids];refine ah func151 ntmps151 ?_;refine aK (aC 0 5 (aC 8 5 (.a 5 (.q 6 (.q 7 (.a 13 (.q 14 (.q 15 .nil)))))))) ?_;refine aj ?_;refine aI [] qx ?_;refine aI [] uc ?_;exact ay
theorem Ol (b:Bool) (c:E) (p:List S) (q:List S) (Cp:vC b p) (Cq:vC b q):oe b (.if2 c p q):=by
 intro t ho ht hb;obtain ⟨⟨kk,aa,vv,ss,ks⟩,l⟩:=t;obtain ⟨L,I,h3,hl⟩:=eH ht;simp only at L I h3;subst L I h3;obtain ⟨x0,x1,x2,rfl,rm,vX,IP⟩:=Ye hl;simp only [S.ok,aH] at ho;rw [S.tree,wt] at hb;simp only [fj,lim] at hb;have qx:=qG b (a:=c) ho.1 (by unfold lim;omega) x0 rm;have yx:=jU b c ho.1;have sr:(aX [x0,x1,x2])[0]?=some (cT x0):=dk rfl;have uc:=Cp x1 ho.2.1 vX (by unfold lim bU;omega);have fR:=Go.Xp.tB (E.out b) (jU b) ho.2.1;rw [bU] at fR;have jg:(aX [x0,x1,x2])[1]?=some (cT x1):=dk rfl;have kG:=Cq x2 ho.2.2 IP (by unfold lim bU;omega);have jc:=Go.Xp.tB (E.out b) (jU b) ho.2.2;rw [bU] at jc;have ea:(aX [x0,x1,x2])[2]?=some (cT x2):=dk rfl;rw [S.bu];generalize c.out b=y0 at *
 change GF _ _ _ _ (.v (sv _)) _ at uc
 unfold fA at uc fR;generalize S.da (E.out b) [123,32] p++[125]=y1 at *
 change GF _ _ _ _ (.v (sv _)) _ at kG
 unfold fA at kG jc;generalize S.da (E.out b) [123,32] q++[125]=y2 at *;simp only [cT,T.n,T.kids];refine ah func151 ntmps151 ?_;refine aK (aC 0 5 (aC 8 5 (.a 5 (.q 6 (.q 7 (.a 13 (.q 14 (.q 15 .nil)))))))) ?_;refine aj ?_;refine aI [] qx ?_;refine aI [] uc ?_;refine D ?_;refine V [] kG ?_;exact al
theorem HY (b:Bool) (c:E) (p:List S) (Cp:vC b p):oe b (.while_ c p):=by
 intro t ho ht hb;obtain ⟨⟨kk,aa,vv,ss,ks⟩,l⟩:=t;obtain ⟨L,I,h3,hl⟩:=eH ht;simp only at L I h3;subst L I h3;obtain ⟨x0,x1,rfl,rm,vX⟩:=CH hl;simp only [S.ok,aH] at ho;rw [S.tree,wt] at hb;simp only [fj,lim] at hb;have qx:=qG b (a:=c) ho.1 (by unfold lim;omega) x0 rm;have yx:=jU b c ho.1;have sr:(aX [x0,x1])[0]?=some (cT x0):=dk rfl;have uc:=Cp x1 ho.2 vX (by unfold lim bU;omega);have fR:=Go.Xp.tB (E.out b) (jU b) ho.2;rw [bU] at fR;have jg:(aX [x0,x1])[1]?=some (cT x1):=dk rfl;rw [S.bu];generalize c.out b=y0 at *
 change GF _ _ _ _ (.v (sv _)) _ at uc
 unfold fA at uc fR;generalize S.da (E.out b) [123,32] p++[125]=y1 at *;simp only [cT,T.n,T.kids];refine ah func151 ntmps151 ?_;refine aK (aC 0 5 (aC 8 5 (.a 5 (.q 6 (.q 7 (.a 13 (.q 14 (.q 15 .nil)))))))) ?_;refine aj ?_;refine aI [] qx ?_;refine aI [] uc ?_;exact ay
theorem Oo (b:Bool) (a:E):oe b (.ret a):=by
 intro t ho ht hb;obtain ⟨⟨kk,aa,vv,ss,ks⟩,l⟩:=t;obtain ⟨L,I,h3,hl⟩:=eH ht;simp only at L I h3;subst L I h3;obtain ⟨x0,rfl,rm⟩:=wY hl;simp only [S.ok] at ho;rw [S.tree,wt] at hb;simp only [fj,lim] at hb;have qx:=qG b (a:=a) ho (by unfold lim;omega) x0 rm;have yx:=jU b a ho;have sr:(aX [x0])[0]?=some (cT x0):=dk rfl;rw [S.bu];generalize a.out b=y0 at *;simp only [cT,T.n,T.kids];refine ah func151 ntmps151 ?_;refine V [] qx ?_;exact al
theorem Qu (b:Bool) (a:E):oe b (.do_ a):=by
 intro t ho ht hb;obtain ⟨⟨kk,aa,vv,ss,ks⟩,l⟩:=t;obtain ⟨L,I,h3,hl⟩:=eH ht;simp only at L I h3;subst L I h3;obtain ⟨x0,rfl,rm⟩:=wY hl;simp only [S.ok] at ho;rw [S.tree,wt] at hb;simp only [fj,lim] at hb;have qx:=qG b (a:=a) ho (by unfold lim;omega) x0 rm;have yx:=jU b a ho;have sr:(aX [x0])[0]?=some (cT x0):=dk rfl;rw [S.bu];generalize a.out b=y0 at *;simp only [cT,T.n,T.kids];refine ah func151 ntmps151 ?_;refine V [] qx ?_;exact al
theorem sJ (b:Bool) (es:List S) (C:∀ a∈es,oe b a):vC b es:=by
 intro t ho ht hb;obtain ⟨⟨kk,aa,vv,ss,ks⟩,l⟩:=t;obtain ⟨L,I,h3,hl⟩:=eH ht;simp only at L I h3;subst L I h3;obtain ⟨hlen,uV⟩:=Jq hl;have n5:=Go.Xp.tB (E.out b) (jU b) ho;rw [bU,wt] at hb;rw [bU,wt] at n5;have hn:=G2 es;unfold fA at n5 |-;unfold lim at hb;simp only [aU,length_cons,length_nil] at hb n5;simp only [cT,T.n,T.kids];refine ah func151 ntmps151 ?_;refine GW.range (aX l).length (fun k fr F=>∃ y,fr=[U,.v (.bool b),.loc 0 0,U,U,U,.v (sv y),U,U,U,U,U,U,U,U,U,U,U,U,U,U,U,U,U,U,U,U,U,U,U,U,U,U,U,U,U,U,U,U,U,U,U,U,U,U,U,U,U,U,U,U,U,U,U,U,U,U,U,U,U,U,U,U,U,U,U,U,U,U,U,U,U,U,U,U,U,U,U,U,U,U,U,U,U,U,U,U,U,U,U,U,U,U,U,U,U,U,U,U,U,U,U,U,U,U,U,U,U,U,U,U,U,U,U,U,U,U,U,U,U,U,U,U,U,U,U,U,U,U,U,U,.sl 6 (aX l),.v (ii ((aX l).length:Int)),.v (ii (k:Nat)),U,U,U,U,U,U,U,U,U,U,U,U]/\F=[.box 65 [.v (ii 14),.v (ii aa),.v (ii 0),.v (sv []),ints ks,.sl 6 (aX l)]]/\S.da (E.out b) y (es.drop k)=S.da (E.out b) [123,32] es) ?_ (by rw [aZ];omega) ?_ ?_ ?_
 ·exact ⟨_,_,Wk.aE ao,_,rfl,rfl,rfl⟩
 ·rintro k _ _ ⟨y,rfl,rfl,_⟩;exact et
 ·rintro k _ _ hk ⟨y,rfl,rfl,hy⟩
  have hk:k < es.length:=by rw [aZ,hlen] at hk;exact hk
  have xJ:k < l.length:=by omega
  have hx:es[k]?=some es[k]:=by simp [hk]
  have ji:l[k]?=some l[k]:=by simp [xJ]
  have hr:=dk ji;rw [kW hk,S.da] at hy;have hm:=bF hx;have hc:=C _ hm _ (GK ho hm) (uV k _ _ ji hx) (by have:=G3 hm;unfold lim;omega);generalize l[k]=t at *;generalize hgx:es[k].bu (E.out b)=x at *;have mw:=JB (E.out b) (es.drop (k+1)) (y++x++[32]);rw [hy] at mw;simp only [aU,length_cons,length_nil] at mw;refine D ?_;refine V [] hc ?_;exact ⟨rfl,rfl,_,_,(Wk.cut (n:=1) (fO rfl) rfl).trans (Wk.aE ao),_,rfl,rfl,hy⟩
 ·rintro _ _ ⟨y,rfl,rfl,hy⟩;rw [List.drop_of_length_le (by rw [aZ,hlen];exact aD _),S.da] at hy;subst hy;exact ay
mutual
theorem VM (b:Bool):∀ s:S,oe b s
 | .set s a=>Oq b s a
 | .put s a c=>Om b s a c
 | .if1 c p=>Oj b c p (sJ b p (tL b p))
 | .if2 c p q=>Ol b c p q (sJ b p (tL b p)) (sJ b q (tL b q))
 | .while_ c p=>HY b c p (sJ b p (tL b p))
 | .ret a=>Oo b a
 | .do_ a=>Qu b a
 | .var s a=>Ou b s a
theorem tL (b:Bool):∀ l:List S,∀ a∈l,oe b a
 | []=>fun a h=>by cases h
 | c::l=>fun a h=>by
  rcases dA h with h | h
  ·rw [h];exact VM b c
  ·exact tL b l a h
end
theorem VL (b:Bool) (l:List S):vC b l:=sJ b l (tL b l)
end Go.Xg
namespace Go.Xg
open GV (U)
open Go.RowKit Go.Xw Go.Proofs Tryz
open Go.Xp (Tok Nd T bz one levels Ar c6 E S er aS wt fj bU fA eU)
open Go.Sp
attribute [local irreducible] GW GL GO YG GC GA be bd
theorem M7 (p:Src) (hp:Cd p) (ls:List (List S)) (hb:EO p ls):GF prog 105 [.agg (ar p)] [] (.v (.bool (ls.all fun l=>eU l 1))) []:=by
 refine ah func105 ntmps105 ?_;refine GW.range (p.fns.map au).length (fun k fr F=>fr=[U,.loc 0 0,U,U,U,U,U,U,.sl 3 (p.fns.map au),.v (ii ((p.fns.map au).length:Int)),.v (ii (k:Nat)),U,U,U,U,U,U,U,U,U,U,U,U,U,U,U,U,U,U,U,U,U,U,U,U,U,U,U,U,U,U,U,U,U,U]/\F=[.box 33 (ar p)]/\((ls.take k).all fun l=>eU l 1)=true) ?_ (by simpa using by have:=hp.fns.1;omega) ?_ ?_ ?_
 ·exact kQ
 ·exact iI
 ·rintro k _ _ hk ⟨rfl,rfl,hf⟩
  have hk:k < p.fns.length:=by simpa using hk
  have iT:k < ls.length:=by rw [hb.len];exact hk
  have hx:p.fns[k]?=some p.fns[k]:=by simp [hk]
  have Ad:ls[k]?=some ls[k]:=by simp [iT]
  have hr:=sB hx;obtain ⟨h0,ho,hw,t,qB,her⟩:=hb.at_ k _ _ hx Ad;have hs:=EM p (fun n hn=>(hp.nodes.2 n hn).2) _ _ _ qB;rw [Int.toNat_of_nonneg h0] at hs;have FX:=VL true ls[k] t ho her (by unfold lim;omega);obtain ⟨ts,t2,q,f,L,I,h3,h4,h5,h6,h7⟩:=RT ho hw;have ji:=M8 _ ts G L;have hmp:RS.ok ⟨ts,0,(fA E.bu ls[k]).length,0,0⟩:=⟨aM _,by simp only;omega⟩;have dZ:=(sds f).block 1 _ t2 q hmp G h5
  have lI:(E.out true)=E.bu:=by funext a;rfl
  rw [lI] at FX;generalize fA E.bu ls[k]=tx at *;generalize vu:eU ls[k] 1=fit at *;generalize p.fns[k]=x at *
  rcases h7 with ⟨h7,h8,rfl⟩ | ⟨h7,rfl⟩
  ·have uc:(q.code != 0)=false:=by simpa using h7
   have kG:((q.i:Int) != ((q.l.map dw).length:Int))=false:=by rw [bP,h6];simp [h8]
   refine D ?_;refine V [] hs ?_;refine V [] FX ?_;refine V [] ji ?_;refine V [2] dZ ?_;refine aK (aC 0 17 .nil) ?_;refine bq ?_;exact ⟨rfl,rfl,_,_,(Wk.cut (n:=1) (fO rfl) rfl).trans (Wk.aE ao),rfl,rfl,tS Ad hf vu⟩
  ·have uc:(q.code != 0)=true:=by simpa using h7
   have aY:(ls.all fun l=>eU l 1)=false:=vD Ad vu;rw [aY];refine D ?_;refine V [] hs ?_;refine V [] FX ?_;refine V [] ji ?_;refine V [2] dZ ?_;refine aK (aC 0 17 .nil) ?_;refine aj ?_;exact ay
 ·rintro _ _ ⟨rfl,rfl,hf⟩;rw [lS (by rw [bP,hb.len];exact aD _)] at hf;rw [hf];exact ay
theorem Lq (p:Src) (hp:Cd p) (h:oV p=some false):GF prog 58 [.agg (ar p)] [] (.v (.bool false)) []:=by
 have hs:=BW p hp false h;refine ah func58 ntmps58 ?_;refine V [] hs ?_;exact al
theorem Lr (p:Src) (hp:Cd p) (h:oV p=some true) (ls:List (List S)) (hb:EO p ls):GF prog 58 [.agg (ar p)] [] (.v (.bool (ls.all fun l=>eU l 1))) []:=by
 have hs:=BW p hp true h;have hf:=M7 p hp ls hb;generalize (ls.all fun l=>eU l 1)=b at *;refine ah func58 ntmps58 ?_;refine V [] hs ?_;refine V [] hf ?_;exact al
end Go.Xg
namespace Go.Xg
open Go.RowKit Go.Xw Go.Proofs Tryz
open Go.Xp (Tok Nd T levels Ar E S er wt bU fA eU)
open Go.Sp Go.Im
attribute [local irreducible] GW GL GO YG GC GA be bd
theorem SW {p:Src} (hw:df p<=1048576):Cd p:=by
 obtain ⟨⟨a1,a2⟩,⟨b1,b2⟩,⟨c1,c2⟩,⟨d1,d2⟩⟩:=ju p;exact ⟨⟨by omega,fun s hs=>by have:=a2 s hs;omega⟩,⟨by omega,fun s hs=>by have:=b2 s hs;omega⟩,⟨by omega,fun f hf=>by obtain ⟨e1,e2,e3⟩:=c2 f hf;exact ⟨by omega,by omega,fun s hs=>by have:=e3 s hs;omega⟩⟩,⟨by omega,fun n hn=>by obtain ⟨e1,e2⟩:=d2 n hn;exact ⟨by omega,by omega⟩⟩⟩
theorem uL (p:Src) (hw:df p<=1048576):GF prog 58 [.agg (ar p)] [] (.v (.bool (fI p))) []:=by
 have jh:=SW hw;obtain ⟨b,hb⟩:=Lc p
 cases b with
 | false=>rw [Yi hb];exact Lq p jh hb
 | true =>
  obtain ⟨l,hl⟩:=SZ hb;obtain ⟨ls,hf⟩:=hl.QF;rw [Yj hl hf];exact Lr p jh hb ls (LK hl hf hw)
end Go.Xg
