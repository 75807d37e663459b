/- Part 6 of proofs that are told in their last texts. -/
import Derived.Test.YtbfmholmeiegoaaGreatDoorZ5
import Derived.Test.YtbfmholmeiegoaaGreatDoorZ2
open List (all_append all_cons all_eq_false all_nil length_cons length_nil)
set_option linter.unusedVariables false
set_option linter.unusedSimpArgs false
set_option maxRecDepth 100000
namespace Go.Xg
open Go.RowKit Go.Xw
def Ob.iJ:Ob->Bool
 | .vech _ _ _ _=>true
 | _=>false
def oC (β:Bt) (aw:List Nat):Bt:=fun j=>match aw[j]? with
 | some i=>β i
 | none=>.no
section
variable {B:Bs} {K:Fz} {β:Bt} {Γ:List Ob} {w:World}
theorem bm.pE {K:Fz} {β bX:Bt} {vs:List Value} {gs:List GV} (h:bm K β vs gs) (hp:∀ g∈gs,g.pc=true):bm K bX vs gs:=⟨h.1,fun i v g I M=>(h.2 i v g I M).pc (hp g (br M))⟩
theorem gX.flat {k:Nat} {rows:List (List GV)} (h:gX k rows):∀ g∈rows.flatten,g.pc=true:=fun g hg=>by
 obtain ⟨r,I,M⟩:=List.mem_flatten.1 hg;exact (h r I).2 g M
theorem Inv.pick (h:Inv B K β Γ w) (hm:B.m=0) {aw:List Nat} {Δ:List Ob} (hl:Δ.length=aw.length) (hn:aw.Nodup)
  (hx:∀ (j:Nat) x,Δ[j]?=some x->x.iJ=true/\∀ i,aw[j]?=some i->Γ[i]?=some x):Inv B K (oC β aw) Δ w:=by
 have hb:∀ i b,(oC β aw i).blk=some b->∃ q,aw[i]?=some q/\(β q).blk=some b:=fun i b hi=>by
  unfold oC at hi
  cases hs:aw[i]? with
  | none=>rw [hs] at hi;cases hi
  | some q=>rw [hs] at hi;exact ⟨q,rfl,hi⟩
 refine ⟨h.ext,h.kle,fun i=>by rw [h.loc i G];trivial,h.loc,h.fz,fun i x hi=>?_,fun i hi=>?_,fun i j b hi hj=>?_,fun i b hi=>?_,h.kn,h.tab.step (S:=iD) (Ext.refl w) (fun _ h=>h.elim) (cV.refl K) (fun i b2 M=>?_)⟩
 ·obtain ⟨I,M⟩:=hx i x hi;have aj:=(bq hi).1;have hs:aw[i]?=some (aw[i]'G):=dq _
  cases x with
  | vech E k rows v =>
   obtain ⟨xs,e1,e2,e3,e4,e5⟩:=h.ob _ _ (M _ hs);refine ⟨xs,?_,e2,e3.pE e4.flat,e4,e5⟩;show oC β aw i=_;unfold oC;rw [hs];exact e1
  | _=>cases I
 ·unfold oC;rw [List.getElem?_eq_none G]
 ·obtain ⟨q,I,M⟩:=hb i b hi;obtain ⟨r,h3,h4⟩:=hb j b hj;have:=h.dis q r b M h4;subst this;obtain ⟨a1,a2⟩:=bq I;obtain ⟨b1,b2⟩:=bq h3;exact (List.getElem_inj hn).1 (a2.trans b2.symm)
 ·obtain ⟨q,I,M⟩:=hb i b hi;exact h.own q b M
 ·obtain ⟨q,h3,h4⟩:=hb i b2 M;exact .inl ⟨q,h4⟩
theorem Inv.view {i E k:Nat} {rows:List (List GV)} {x:Value} (h:Inv B K β Γ w) (hi:Γ[i]?=some (.vech E k rows x)):∃ K1,cV K K1/\mK K1 w/\kL K1 (fun _=>.no) w/\Rel K1 (fun _=>.no) x (.sl k rows):=by
 obtain ⟨K',hK,hr,bz⟩:=h.tL hi;exact ⟨K',hK,bz.fz,⟨bz.tab.le,bz.tab.pow,bz.tab.spc,fun i b h=>by cases h⟩,hr.pc rfl⟩
theorem Inv.ab4 (h:Inv B K β Γ w):kL K (fun _=>.no) w:=⟨h.tab.le,h.tab.pow,h.tab.spc,fun i b h=>by cases h⟩
theorem Inv.new (h:mK K w) (ht:kL K (fun _=>.no) w):Inv ⟨w,iD,K,fun _=>.no,0⟩ K (fun _=>.no) [] w :=
 ⟨Ext.refl w,cV.refl _,dF.refl _,fun _ _=>rfl,h,fun i x h=>by simp at h,fun _ _=>rfl,fun i j b h=>zfS,fun i b h=>zfS,fun b o g h=>.inl h,ht⟩
theorem Inv.Gv {i idx o j E k T k':Nat} {rows ks:List (List GV)} {x h:Value} {r:List GV} (hI:Inv B K β Γ w) (hi:Γ[i]?=some (.vech T k rows h)) (hr:rows[idx]?=some r) (ho:r[o]?=some (.v x)) (cn:i≠j) (hj:Γ[j]?=some (.vech E k' ks x)) :
  ∃ K',cV K K'/\Inv B K' β (oset (oset Γ j (.vec E k' ks.length ks)) i (.vech T k (eL rows idx o (.sl k' ks)) h)) w:=by
 obtain ⟨K',hK,fT,bz⟩:=hI.tL hj;obtain ⟨xs,I,M,h3,h4,h5⟩:=bz.ob i (.vech T k rows h) zf5;have aj:=(bq hr).1
 have Pv:o < k:=by rw [<-(h4 r (br hr)).1];exact (bq ho).1
 exact ⟨K',hK,bz.swap ⟨xs,by rw [jo];exact I,by rw [jo];exact M,by rw [wJ Pv h4 aj];exact bm.bp fT h3 (vI h4 hr ho),A7 rfl h4,h5⟩⟩
theorem A6 {rows:List (List GV)} {i o:Nat} {g:GV} {r:List GV} (hr:rows[i]?=some r):∀ q,(eL rows i o g)[q]?=if q=i then some (bp r o g) else rows[q]?:=by
 induction rows generalizing i with
 | nil=>simp at hr
 | cons x rs ih =>
  intro q
  cases i with
  | zero =>
   cases hr
   cases q with
   | zero=>simp [eL]
   | succ q=>simp [eL]
  | succ i =>
   cases q with
   | zero=>simp [eL]
   | succ q =>
    have:=ih (by simpa using hr) q;simp only [eL,List.getElem?_cons_succ,this]
    by_cases h:q=i
    ·simp [h]
    ·simp [h]
theorem Inv.IB {T k o E k' jf N:Nat} {h:Value} {raw fin:Nat->List GV} {ks:Nat->List (List GV)} {hd:Nat->Value} {jp:Nat->Nat} (hI:Inv B K β Γ w) {Gu:List (List GV)} (hjf:Γ[jf]?=some (.vech T k Gu h)) (h0:Gu.length=N/\∀ i,i < N->Gu[i]?=some (raw i))
  (abG:∀ i,i < N->(raw i)[o]?=some (.v (hd i))/\bp (raw i) o (.sl k' (ks i))=fin i) (lg:∀ i,i < N->Γ[jp i]?=some (.vech E k' (ks i) (hd i))) (cn:∀ i,i < N->jp i≠jf) (HB:∀ i i',i < N->i' < N->jp i=jp i'->i=i') :
  ∃ K' aR rows,cV K K'/\Inv B K' β aR w/\aR[jf]?=some (.vech T k rows h)/\rows.length=N/\(∀ i,i < N->rows[i]?=some (fin i))/\∀ q,q≠jf->(∀ i,i < N->q≠jp i)->aR[q]?=Γ[q]?:=by
 have key:∀ n,n<=N->∃ K' aR rows,cV K K'/\Inv B K' β aR w/\aR[jf]?=some (.vech T k rows h)/\rows.length=N/\(∀ i,i < n->rows[i]?=some (fin i))/\(∀ i,n<=i->i < N->rows[i]?=some (raw i))/\(∀ i,n<=i->i < N->aR[jp i]?=some (.vech E k' (ks i) (hd i)))/\∀ q,q≠jf->(∀ i,i < N->q≠jp i)->aR[q]?=Γ[q]?:=by
  intro n
  induction n with
  | zero=>intro _;exact ⟨K,Γ,Gu,cV.refl K,hI,hjf,h0.1,fun i h=>by omega,fun i _ h=>h0.2 i h,fun i _ h=>lg i h,fun _ _ _=>rfl⟩
  | succ n ih =>
   intro hn;obtain ⟨K',aR,rows,a1,a2,a3,a4,a5,a6,a7,a8⟩:=ih G;have hr:=a6 n (aD _) G;obtain ⟨c1,c2⟩:=abG n G;obtain ⟨K2,b1,b2⟩:=a2.Gv a3 hr c1 (fun e=>cn n G e.symm) (a7 n (aD _) G);have aj:=(bq a3).1;refine ⟨K2,_,eL rows n o (.sl k' (ks n)),a1.trans b1,b2,?_,by rw [jo];exact a4,fun i hi=>?_,fun i hi Pq=>?_,fun i hi Pq=>?_,fun q hq hqj=>?_⟩
   ·rw [bg,bg,dN];simp [aj]
   ·rw [A6 hr,c2]
    by_cases e:i=n
    ·rw [ab e,e]
    ·rw [F e];exact a5 i G
   ·rw [A6 hr,F G];exact a6 i G Pq
   ·rw [bg,bg,dN,F (fun e=>cn i Pq e.symm),dN,F (fun e=>by have:=HB n i G Pq e;omega)];exact a7 i G Pq
   ·rw [bg,bg,dN,F (fun e=>hq e.symm),dN,F (fun e=>hqj n G e.symm)];exact a8 q hq hqj
 obtain ⟨K',aR,rows,a1,a2,a3,a4,a5,_,_,a8⟩:=key N (aD _);exact ⟨K',aR,rows,a1,a2,a3,a4,a5,a8⟩
end
section
variable {P:Program} {fn:Func} {R:GV->List Ob->Prop} {fr:List GV} {Γ:List Ob} {e:Exit}
theorem ZH {t:Tmp} {x:Value} (aw:List Nat) (Δ:List Ob) (hr:fn.results=#[.tmp t]) (he:e=.normal\/e=.ret) (hg:cK fr t=.v x) (hl:Δ.length=aw.length) (hn:aw.Nodup)
  (hx:∀ (j:Nat) x,Δ[j]?=some x->x.iJ=true/\∀ i,aw[j]?=some i->Γ[i]?=some x) (h:R (.v x) Δ):rQ P fn 0 R e fr Γ :=
 ⟨he,fun B K β w l hB hI hF=>⟨nth l t,K,oC β aw,.v x,Δ,by rw [results_tmp hr,ku],hI.pick hB hl hn hx,by have:=hF.nth t;rw [hg] at this;rw [Rel.fF this];exact .v _,h⟩⟩
theorem TZ {t:Tmp} {T:TypeId} {k:Nat} [hT:Ty P T true k] {i:Nat} {E:TypeId} {cs:List GV} (aw:List Nat) (Δ:List Ob) (hr:fn.results=#[.cell t T]) (he:e=.normal\/e=.ret) (hg:cK fr t=.loc i 0) (bJ:Γ[i]?=some (.box E cs)) (hk:cs.length=k) (hp:pE cs=true)
  (hl:Δ.length=aw.length) (hn:aw.Nodup) (hx:∀ (j:Nat) x,Δ[j]?=some x->x.iJ=true/\∀ i,aw[j]?=some i->Γ[i]?=some x) (h:R (.agg cs) Δ):rQ P fn 0 R e fr Γ :=
 ⟨he,fun B K β w l hB hI hF=>by
  obtain ⟨b,vs,I,M,h3,h4⟩:=hI.ob i _ bJ
  have Pw:nth l t=.pointer (some ⟨b,0,none⟩):=by
   have:=hF.nth t;rw [hg] at this;generalize nth l t=v at this
   cases this with
   | loc _ _ b' bA=>rw [I] at bA;cases bA;rfl
  have lX:l.toArray.getD t undef=.pointer (some ⟨b,0,none⟩):=by rw [ku,Pw]
  have Df:=nH (P:=P) (w:=w) (t:=T) (b:=b) (o:=0) (vs:=vs) (k:=k) zgt (fun j v hj=>by
   rw [cL,cell_of_row w b j _ E (0,0) M];simpa using hj)
  have yt:l[t]?.getD undef=.pointer (some ⟨b,0,none⟩):=by simpa using lX
  have h5:bm K (oC β aw) vs cs:=h3.pE (mc hp)
  exact ⟨.agg vs.toArray,K,oC β aw,.agg cs,Δ,by simp [results,hr,yt,asAddr,Df],hI.pick hB hl hn hx,.agg vs cs h5.1 h5.2,h⟩⟩
end
section
variable {P:Program} {fn:Func} {R:GV->List Ob->Prop} {fr:List GV} {Γ:List Ob} {e:Exit}
theorem Fe {Γ:List Ob} {n:Nat} (h:∀ x∈Γ.drop n,x.iJ=true):(Γ.drop n).length=((List.range (Γ.length - n)).map (·+n)).length/\((List.range (Γ.length - n)).map (·+n)).Nodup /\
  ∀ (j:Nat) x,(Γ.drop n)[j]?=some x->x.iJ=true/\∀ i,((List.range (Γ.length - n)).map (·+n))[j]?=some i->Γ[i]?=some x:=by
 refine ⟨by simp,?_,fun j x hj=>⟨h x (br hj),fun i hi=>?_⟩⟩
 ·unfold List.Nodup;rw [List.pairwise_map]
  exact List.nodup_range.imp fun cn he=>cn G
 ·have aj:=(bq hj).1;rw [jy] at aj;rw [aS,List.getElem?_range aj] at hi;cases hi;rw [List.getElem?_drop] at hj;show Γ[j+n]?=some x;rw [Nat.add_comm];exact hj
theorem tI {t:Tmp} {x:Value} (n:Nat) (hr:fn.results=#[.tmp t]) (he:e=.normal\/e=.ret) (hg:cK fr t=.v x) (ha:∀ x∈Γ.drop n,x.iJ=true) (h:R (.v x) (Γ.drop n)):rQ P fn 0 R e fr Γ :=
 have hd:=Fe ha
 ZH _ (Γ.drop n) hr he hg hd.1 hd.2.1 hd.2.2 h
theorem Mr {t:Tmp} {T:TypeId} {k:Nat} [hT:Ty P T true k] {i:Nat} {E:TypeId} {cs:List GV} (n:Nat) (hr:fn.results=#[.cell t T]) (he:e=.normal\/e=.ret) (hg:cK fr t=.loc i 0) (bJ:Γ[i]?=some (.box E cs)) (hk:cs.length=k) (hp:pE cs=true)
  (ha:∀ x∈Γ.drop n,x.iJ=true) (h:R (.agg cs) (Γ.drop n)):rQ P fn 0 R e fr Γ :=
 have hd:=Fe ha
 TZ _ (Γ.drop n) hr he hg bJ hk hp hd.1 hd.2.1 hd.2.2 h
end
section
variable {P:Program} {m:Nat} {Q:dG} {fr:List GV} {Γ:List Ob} {ops:Array Oper} {rest:List Oper} {d:Option Tmp} {op:Op} {ty:TypeId} {pos:String} {af:Array Edge}
theorem GL.wT {t:TypeId} {x:Operand} {cs:List GV} (hx:nu (be fr x)=some cs) (hp:pE cs=true) (h:GL P m ops Q rest (bC fr d (.box cs 0)) Γ):GL P m ops Q (⟨d,.box t x,ty,pos,af,none⟩::rest) fr Γ:=fun B K β w l hm hI hF=>by
 obtain ⟨vs,I,M⟩:=(hF.ev x).cells hx
 refine WL.box rfl fun b w' hn=>?_
 rw [I] at hn;obtain ⟨hle,bz⟩:=hI.tS hn M (mc hp);exact h B _ β w' _ hm bz ((hF.mono hle (dF.refl β)).put d (Rel.box (K:=l0 K b cs) (β:=β) b 0 0 cs (fun j g hg=>by rw [cL];exact uO hg)))
theorem GL.borrow {f:FuncId} [hf:aK P f] {args:List Operand} {mG:Array TypeId} {gs:List GV} {v:Value} (hc:GF P f gs [] (.v v) [])
  (hv:∀ B K β w l,Inv B K β Γ w->FR K β fr l->∃ K1,mK K1 w/\kL K1 (fun _=>.no) w/\bm K1 (fun _=>.no) (args.map (ev l)) gs)
  (h:GL P m ops Q rest (bC fr d (.v v)) Γ):GL P m ops Q (⟨d,.call ⟨.value (.func f),args.toArray,mG⟩,ty,pos,af,none⟩::rest) fr Γ:=fun B K β w l hm hI hF=>by
 obtain ⟨K1,I,M,h3⟩:=hv B K β w l hI hF
 have tW:(execOp (ev l) ⟨d,.call ⟨.value (.func f),args.toArray,mG⟩,ty,pos,af,none⟩).run P w=.ok (.enter f (args.map (ev l)).toArray) w:=by simp [execOp,resolve,ev,Deferred.ofValue,invoke,nG]
 refine WL.calls tW (hc _ K1 _ w _ rfl (Inv.new I M) h3) ?_;rintro x w' ⟨K',bX,g,aR,bz,fT,rfl,rfl⟩;exact h B K β w' _ hm (hI.same bz.ext) (hF.put d (by rw [Rel.fF fT];exact .v _))
theorem vK {P:Program} {w:World} {t e ty:TypeId} {i:TypeInfo} (hu:P.underlying t=some (.slice e)) (hi:P.info? e=some i) (a b:Option Addr) (n c d:Nat) (hc:n<=c) :
  (Builtin.append_ #[t,t] ty #[.slice a n c,.slice b 0 d]).run P w=.ok (.slice a n c) w:=by
 cases a <;> cases b <;> simp [Builtin.append_,run_underlying hu,sizeOf,typeInfo,hi,Builtin.lenOf,hc,Builtin.firstCells,loadCells,loadCellsFrom,storeCells]
theorem GL.Zu {s x:Operand} {t e k iP:Nat} [hT:qd P t e k iP] (i:Nat) {dt:Tmp} {v:Value} {rows:List (List GV)} (hx:be fr x=.sl k []) (hs:be fr s=.v v) (bJ:Γ[i]?=some (.vech e k rows v))
  (h:GL P m ops Q rest (bC fr (some dt) (.v v)) Γ):GL P m ops Q (⟨some dt,.call ⟨.builtin .append,#[s,x],#[t,t]⟩,ty,pos,af,none⟩::rest) fr Γ:=fun B K β w l hm hI hF=>by
 obtain ⟨hu,⟨j,z,hi,_⟩,_⟩:=hT.parts;obtain ⟨xs,o1,o2,_⟩:=hI.ob i _ bJ;have sJ:ev l s=v:=hF.kq hs;have qE:=hF.ev x;rw [hx] at qE;generalize tX:ev l x=vx at qE
 obtain ⟨b,d',rfl⟩:∃ b d',vx=.slice b 0 d':=by
  cases qE with
  | sl0 a c k=>exact ⟨a,c,rfl⟩
  | sl b o c _ _ hr _=>exact zeq
 obtain ⟨a,n,c,rfl,hc⟩:∃ a n c,v=.slice a n c/\n<=c:=by
  rcases o2.2 with ⟨e1,e2⟩ | ⟨g,cap,cur,e1,_,_,e2,_⟩
  ·exact ⟨_,_,_,e1,aD _⟩
  ·exact ⟨_,_,_,e1,e2⟩
 have oJ:=vK (P:=P) (w:=w) (ty:=ty) hu hi a b n c d' hc;exact WL.val (v:=.slice a n c) (w':=w) zgc (h B K β w _ hm hI (hF.put _ (.v _)))
theorem GL.Zx {s x:Operand} {t e k iP:Nat} [hT:qd P t e k iP] {i n fz:Nat} {dt:Tmp} {rows:List (List GV)} (hx:be fr x=.sl k []) (hs:be fr s=.vec i n) (bJ:Γ[i]?=some (.vec e k fz rows)) (hn:rows.length=n)
  (h:GL P m ops Q rest (bC fr (some dt) (.vec i n)) Γ):GL P m ops Q (⟨some dt,.call ⟨.builtin .append,#[s,x],#[t,t]⟩,ty,pos,af,none⟩::rest) fr Γ:=fun B K β w l hm hI hF=>by
 subst hn;obtain ⟨hu,⟨j,z,hi,_⟩,_⟩:=hT.parts;obtain ⟨h0,xs,o1,o2,_⟩:=hI.ob i _ bJ;have vw:=hF.ev s;rw [hs] at vw
 have sJ:ev l s=h0:=by
  generalize hv:ev l s=v at vw
  cases vw with
  | vec _ _ a c hh =>
   obtain ⟨h',m',e1,e2,e3⟩:=hh;rw [o1] at e1;cases e1;exact e3 rfl
 have qE:=hF.ev x;rw [hx] at qE;generalize tX:ev l x=vx at qE
 obtain ⟨b,d',rfl⟩:∃ b d',vx=.slice b 0 d':=by
  cases qE with
  | sl0 a c k=>exact ⟨a,c,rfl⟩
  | sl b o c _ _ hr _=>exact zeq
 obtain ⟨a,n,c,rfl,hc⟩:∃ a n c,h0=.slice a n c/\n<=c:=by
  rcases o2.2 with ⟨e1,e2⟩ | ⟨g,cap,cur,e1,_,_,e2,_⟩
  ·exact ⟨_,_,_,e1,aD _⟩
  ·exact ⟨_,_,_,e1,e2⟩
 have oJ:=vK (P:=P) (w:=w) (ty:=ty) hu hi a b n c d' hc;exact WL.val (v:=.slice a n c) (w':=w) zgc (h B K β w _ hm hI (hF.put _ (by have:=hF.ev s;rw [hs,sJ] at this;exact this)))
theorem FV {Γ:List Ob} {i:Nat} {x:Ob} (h:Γ[i]?=some x):oset Γ i x=Γ:=by
 rw [bg];apply List.ext_getElem?;intro j;rw [dN]
 by_cases e:i=j
 ·subst e;have:=(bq h).1;rw [ab rfl,ab this,h]
 ·rw [F e]
theorem GL.vZ {s x:Operand} {t e k iP:Nat} [hT:qd P t e k iP] (i:Nat) {n:Nat} {dt:Tmp} {a0:Option Addr} {c0:Nat} {rows news:List (List GV)} (hx:be fr x=.sl k news) (hs:be fr s=.v (.slice a0 n c0)) (bJ:Γ[i]?=some (.vech e k rows (.slice a0 n c0))) (hn:rows.length=n) (I:kC news=true)
  (hb:n+news.length<=9223372036854775807/\(n+news.length) * iP<=140737488355328)
  (h:∀ a c,GL P m ops Q rest (bC fr (some dt) (.v (.slice a (n+news.length) c))) (oset Γ i (.vech e k (rows++news) (.slice a (n+news.length) c)))) :
  GL P m ops Q (⟨some dt,.call ⟨.builtin .append,#[s,x],#[t,t]⟩,ty,pos,af,none⟩::rest) fr Γ:=by
 cases news with
 | nil =>
  have h0:=h a0 c0;rw [bO,show n+([]:List (List GV)).length=n from rfl,FV bJ] at h0;exact GL.Zu i hx hs bJ h0
 | cons r rs=>exact GL.qP i hx hs bJ hn I rfl hb h
theorem GL.AH {s x:Operand} {t e k iP:Nat} [hT:qd P t e k iP] {i n fz:Nat} {dt:Tmp} {rows news:List (List GV)} (hx:be fr x=.sl k news) (hs:be fr s=.vec i n) (bJ:Γ[i]?=some (.vec e k fz rows)) (hn:rows.length=n) (I:kC news=true)
  (hb:n+news.length<=9223372036854775807/\(n+news.length) * iP<=140737488355328)
  (h:GL P m ops Q rest (bC fr (some dt) (.vec i (n+news.length))) (oset Γ i (.vec e k fz (rows++news)))) :
  GL P m ops Q (⟨some dt,.call ⟨.builtin .append,#[s,x],#[t,t]⟩,ty,pos,af,none⟩::rest) fr Γ:=by
 cases news with
 | nil =>
  rw [bO,show n+([]:List (List GV)).length=n from rfl,FV bJ] at h;exact GL.Zx hx hs bJ hn h
 | cons r rs=>exact GL.app hx hs bJ hn I rfl hb h
theorem F5:∀ (us vs:List Value),vs.length=us.length->jq vs 0 us=us:=by
 have key:∀ (us a vs:List Value),vs.length=us.length->jq (a++vs) a.length us=a++us:=by
  intro us
  induction us with
  | nil=>intro a vs h;rw [gC h];rfl
  | cons u us ih =>
   intro a vs h
   cases vs with
   | nil=>simp at h
   | cons v vs =>
    have hu:fS (a++v::vs) a.length u=(a++[u])++vs:=by
     clear ih h
     induction a with
     | nil=>rfl
     | cons x a ih=>rw [List.cons_append,length_cons,fS,ih];rfl
    have:=ih (a++[u]) vs zfP;rw [aM,List.length_singleton] at this;rw [jq,hu,this];simp
 intro us vs h;exact key us [] vs h
theorem GL.qV {t:TypeId} {z:Value} {agg:Bool} {k:Nat} [hZ:rL P t z] [hT:Ty P t agg k] {dt ts:Tmp} {cs:List GV} {Zj:TypeId} {S6:String} {WN:Array Edge} {d2:Option Tmp} (PH:z.cells.size=k) (hy:nu (cK fr ts)=some cs) (cn:Nat.beq ts dt=false) (eZ:jG fr dt=true) (hk:cs.length=k) (I:np cs=true) (hp:pE cs=true)
  (h:GL P m ops Q rest (bC (bC fr (some dt) (.box cs 0)) d2 (.v undef)) Γ):GL P m ops Q (⟨some dt,.alloc t,ty,pos,af,none⟩::⟨d2,.store t (.tmp dt) (.tmp ts),Zj,S6,WN,none⟩::rest) fr Γ:=fun B K β w l hm hI hF=>by
 refine WL.alloc (z:=z) fun b w1 hn=>?_
 obtain ⟨us,kA,kZ⟩:=(hF.nth ts).cells hy
 have HF:ts≠dt:=by intro e;subst e;simp at cn
 have PF:ev (put l (some dt) (.pointer (some ⟨b,0,none⟩))) (.tmp ts)=nth l ts:=ki HF _;have zZ:ev (put l (some dt) (.pointer (some ⟨b,0,none⟩))) (.tmp dt)=.pointer (some ⟨b,0,none⟩):=td (nC hF eZ) _
 have zY:us.length=k:=by rw [kZ.1,hk]
 refine WL.st (t:=t) (k:=k) zZ PF hn.blk zgB G zge fun w2 hs=>?_
 have cq:vL z.cells 0 us=us.toArray:=by
  exact zc7
 rw [kA,List.toList_toArray,cq] at hs;have zQ:vV w w2 b (.cells us.toArray t):=⟨hn.fresh,by rw [hs.size];exact hn.size,hs.blk,hn.ext.step hs.ext fun j hj=>.inl (by subst hj;rw [hn.fresh];exact aD _)⟩;obtain ⟨hle,bz⟩:=hI.tS zQ kZ (mc hp);exact h B _ β w2 _ hm bz (((hF.mono hle (dF.refl β)).put (some dt) (Rel.box (K:=l0 K b cs) (β:=β) b 0 0 cs (fun j g hg=>by rw [cL];exact uO hg))).put d2 (.v _))
end
end Go.Xg
set_option maxHeartbeats 2000000
namespace Go.Xg
open Go.RowKit Go.Xw Go.Proofs Tryz
open GV (U)
open Go.Xp (Nd Ar)
open Go.Sp (Src)
open Go.Im (mR mQ mP)
attribute [local irreducible] GW GL GO YG GC GA aW aZ
def bb (l:List ae):List (List GV):=l.map fun s=>[GV.v (sv s)]
def bQ (l:List Int):List (List GV):=l.map fun i=>[GV.v (ii i)]
def Hd (n:Nat) (h:Value):Prop:=∃ a c,h=.slice a n c
theorem BX (l:List ae) (hl:l.length<=1048576):GC prog 31 [strs l] [] fun g Δ=>∃ h,Hd l.length h/\g=.v h/\Δ=[.vech 9 1 (bb l) h]:=by
 have hm:(l.map (fun s=>[GV.v (sv s)])).length=l.length:=by simp
 refine ah func31 ntmps31 ?_;refine zaY ?_;intro a c;refine zaM ?_;refine GW.loop (fun k:Nat=>l.length - k) (fun k fr Γ=>∃ R Z,fr=[strs l,U,U,.v (.slice a (l.map (fun s=>[GV.v (sv s)])).length c),.v (ii (k:Nat)),U,U,U,U,U,U,U,U,U,U,U,U,U,U,U,U,U]/\Γ=[.vech 9 1 R (.slice a (l.map (fun s=>[GV.v (sv s)])).length c)]/\k<=l.length/\R=(l.take k).map (fun s=>[GV.v (sv s)])++List.replicate (l.length - k) Z) 0 ?_ ?_
 ·exact zau
 rintro k _ _ ⟨R,Z,rfl,rfl,hk,hR⟩
 have nc:R.length=l.length:=by rw [hR];exact mQ hk
 have fY:R.length=(l.map (fun s=>[GV.v (sv s)])).length:=by rw [hm];exact nc
 by_cases aj:k < l.length
 ·have hx:l[k]?=some l[k]:=by simp [aj]
  have hr:(l.map (fun s=>[GV.v (sv s)]))[k]?=some ((fun s=>[GV.v (sv s)]) l[k]):=by rw [aS,hx];rfl
  have dW:decide ((k:Int) < ((l.map (fun s=>[GV.v (sv s)])).length:Int))=true:=by rw [hm];simpa using aj
  exact zfm
 ·have dW:decide ((k:Int) < ((l.map (fun s=>[GV.v (sv s)])).length:Int))=false:=by rw [hm];simpa using aj
  have nA:k=l.length:=by omega
  exact zaC
theorem Tu (l:List Int) (hl:l.length<=1048576):GC prog 138 [ints l] [] fun g Δ=>∃ h,Hd l.length h/\g=.v h/\Δ=[.vech 3 1 (bQ l) h]:=by
 have hm:(l.map (fun i=>[GV.v (ii i)])).length=l.length:=by simp
 refine ah func138 ntmps138 ?_;refine zaY ?_;intro a c;refine zaM ?_;refine GW.loop (fun k:Nat=>l.length - k) (fun k fr Γ=>∃ R Z,fr=[ints l,U,U,.v (.slice a (l.map (fun i=>[GV.v (ii i)])).length c),.v (ii (k:Nat)),U,U,U,U,U,U,U,U,U,U,U,U,U,U,U,U,U]/\Γ=[.vech 3 1 R (.slice a (l.map (fun i=>[GV.v (ii i)])).length c)]/\k<=l.length/\R=(l.take k).map (fun i=>[GV.v (ii i)])++List.replicate (l.length - k) Z) 0 ?_ ?_
 ·exact zau
 rintro k _ _ ⟨R,Z,rfl,rfl,hk,hR⟩
 have nc:R.length=l.length:=by rw [hR];exact mQ hk
 have fY:R.length=(l.map (fun i=>[GV.v (ii i)])).length:=by rw [hm];exact nc
 by_cases aj:k < l.length
 ·have hx:l[k]?=some l[k]:=by simp [aj]
  have hr:(l.map (fun i=>[GV.v (ii i)]))[k]?=some ((fun i=>[GV.v (ii i)]) l[k]):=by rw [aS,hx];rfl
  have dW:decide ((k:Int) < ((l.map (fun i=>[GV.v (ii i)])).length:Int))=true:=by rw [hm];simpa using aj
  exact zfl
 ·have dW:decide ((k:Int) < ((l.map (fun i=>[GV.v (ii i)])).length:Int))=false:=by rw [hm];simpa using aj
  have nA:k=l.length:=by omega
  exact zaC
theorem Nx (l:List Ar) (hl:l.length<=1048576):GC prog 32 [.sl 2 (l.map aB)] [] fun g Δ=>∃ h,Hd l.length h/\g=.v h/\Δ=[.vech 56 2 (List.map aB l) h]:=by
 have hm:(l.map (aB)).length=l.length:=by simp
 refine ah func32 ntmps32 ?_;refine zaY ?_;intro a c;refine zaM ?_;refine GW.loop (fun k:Nat=>l.length - k) (fun k fr Γ=>∃ R Z,fr=[.sl 2 (l.map aB),U,U,.v (.slice a (l.map (aB)).length c),.v (ii (k:Nat)),U,U,U,U,U,U,U,U,U,U,U,U,U,U,U,U,U,U]/\Γ=[.vech 56 2 R (.slice a (l.map (aB)).length c)]/\k<=l.length/\R=(l.take k).map (aB)++List.replicate (l.length - k) Z) 0 ?_ ?_
 ·exact zau
 rintro k _ _ ⟨R,Z,rfl,rfl,hk,hR⟩
 have nc:R.length=l.length:=by rw [hR];exact mQ hk
 have fY:R.length=(l.map (aB)).length:=by rw [hm];exact nc
 by_cases aj:k < l.length
 ·have hx:l[k]?=some l[k]:=by simp [aj]
  have hr:(l.map (aB))[k]?=some ((aB) l[k]):=by rw [aS,hx];rfl
  have dW:decide ((k:Int) < ((l.map (aB)).length:Int))=true:=by rw [hm];simpa using aj
  have cq:=mR (f:=(aB)) (Z:=Z) hx;rw [<-hR] at cq;have hc:=Ga l[k];exact zbV
 ·have dW:decide ((k:Int) < ((l.map (aB)).length:Int))=false:=by rw [hm];simpa using aj
  have nA:k=l.length:=by omega
  exact zaC
def gB (x:Go.Sp.Fn) (h:Value):List GV:=[.v (sv x.name),.v h,.v (ii x.body)]
def gA (x:Go.Sp.Fn) (h:Value):Ob:=.vech 9 1 (bb x.params) h
theorem Zg (x:Go.Sp.Fn) (hp:x.params.length<=1048576):GC prog 87 [.agg (au x)] [] fun g Δ=>∃ h,Hd x.params.length h/\g=.agg (gB x h)/\Δ=[gA x h]:=by
 have h0:=BX x.params hp;refine ah func87 ntmps87 ?_;refine bP [] h0 ?_;rintro _ _ ⟨_,⟨a1,c1,rfl⟩,rfl,rfl⟩;refine zax ?_;refine jc ?_;refine Mr 3 rfl cJ rfl rfl rfl rfl ?_ ?_
 ·intro x hx;rw [oO hx];rfl
 ·exact ⟨_,⟨_,_,rfl⟩,rfl,rfl⟩
theorem WB (l:List Go.Sp.Fn) (hl:l.length<=1048576) (he:∀ x∈l,x.params.length<=1048576):GC prog 33 [.sl 3 (l.map au)] [] fun g Δ=>∃ h hs,Hd l.length h/\hs.length=l.length/\(∀ (i:Nat) x y,l[i]?=some x->hs[i]?=some y->Hd x.params.length y)/\g=.v h /\
  Δ=.vech 58 3 (List.zipWith gB l hs) h::List.zipWith gA l hs:=by
 have hm:(l.map au).length=l.length:=by simp
 refine ah func33 ntmps33 ?_;refine zaY ?_;intro a c;refine zaM ?_
 refine GW.loop (fun k:Nat=>l.length - k) (fun k fr Γ=>∃ R Z hs,fr=[.sl 3 (l.map au),U,U,.v (.slice a (l.map au).length c),.v (ii (k:Nat)),U,U,U,U,U,U,U,U,U,U,U,U,U,U,U,U,U,U]/\Γ=.vech 58 3 R (.slice a (l.map au).length c)::List.zipWith gA (l.take k) hs/\k<=l.length/\hs.length=k /\
  (∀ (i:Nat) x y,l[i]?=some x->hs[i]?=some y->Hd x.params.length y)/\R=List.zipWith gB (l.take k) hs++List.replicate (l.length - k) Z) 0 ?_ ?_
 ·exact zdb
 rintro k _ _ ⟨R,Z,hs,rfl,rfl,hk,Hz,Po,hR⟩
 have nc:R.length=l.length:=by rw [hR,aM,mJ,du,List.length_replicate];omega
 have fY:R.length=(l.map au).length:=by rw [hm];exact nc
 by_cases aj:k < l.length
 ·have hx:l[k]?=some l[k]:=by simp [aj]
  have hr:(l.map au)[k]?=some (au l[k]):=by rw [aS,hx];rfl
  have dW:decide ((k:Int) < ((l.map au).length:Int))=true:=by rw [hm];simpa using aj
  have hex:=he _ (br hx);have hc:=Zg l[k] hex
  have jQ:l.take (k+1)=l.take k++[l[k]]:=by rw [bS,hx];rfl
  have PJ:∀ {γ:Type} (f:Go.Sp.Fn->Value->γ) (h:Value),List.zipWith f (l.take (k+1)) (hs++[h])=List.zipWith f (l.take k) hs++[f l[k] h]:=fun f h=>by
   rw [jQ,List.zipWith_append zf1];rfl
  have cq:∀ h,R.set k (gB l[k] h)=List.zipWith gB (l.take (k+1)) (hs++[h])++List.replicate (l.length - (k+1)) Z:=fun h=>by
   have hz:(List.zipWith gB (l.take k) hs).length=k:=by rw [mJ,du];omega
   exact zb7
  have Sa:∀ h,Hd l[k].params.length h->∀ (i:Nat) x y,l[i]?=some x->(hs++[h])[i]?=some y->Hd x.params.length y:=fun h hh i x y I M=>by
   by_cases hik:i < hs.length
   ·rw [eR hik] at M;exact Po i x y I M
   ·have h3:=(bq M).1;rw [aM,List.length_singleton] at h3
    have:i=k:=by omega
    subst this;rw [fw G,Hz,jx] at M;rw [hx] at I
    cases I;cases M;exact hh
  clear hR;have X9:=PJ gA;unfold gB gA at hc;exact zaO
 ·have dW:decide ((k:Int) < ((l.map au).length:Int))=false:=by rw [hm];simpa using aj
  have nA:k=l.length:=by omega
  subst nA;rw [bH,jx,List.replicate_zero,bO] at hR;subst hR;rw [bH];refine zbA ?_;refine jc ?_;refine tI 0 rfl cJ rfl (fun x hx=>?_) ⟨_,hs,⟨_,_,by rw [hm]⟩,Hz,Po,rfl,rfl⟩
  rcases dw hx with rfl | hx
  ·rfl
  ·obtain ⟨i,hi⟩:=List.getElem?_of_mem hx;rw [List.getElem?_zipWith] at hi;split at hi
   ·cases hi;rfl
   ·cases hi
def dc (x:Nd) (h:Value):List GV:=[.v (ii x.kind),.v (ii x.at_),.v (ii x.n),.v (sv x.s),.v h]
def dB (x:Nd) (h:Value):Ob:=.vech 3 1 (bQ x.kids) h
theorem Tw (x:Nd) (hp:x.kids.length<=1048576):GC prog 88 [.agg (ay x)] [] fun g Δ=>∃ h,Hd x.kids.length h/\g=.agg (dc x h)/\Δ=[dB x h]:=by
 have h0:=Tu x.kids hp;refine ah func88 ntmps88 ?_;refine bP [] h0 ?_;rintro _ _ ⟨_,⟨a1,c1,rfl⟩,rfl,rfl⟩;refine zax ?_;refine jc ?_;refine Mr 3 rfl cJ rfl rfl rfl rfl ?_ ?_
 ·intro x hx;rw [oO hx];rfl
 ·exact ⟨_,⟨_,_,rfl⟩,rfl,rfl⟩
theorem QV (l:List Nd) (hl:l.length<=1048576) (he:∀ x∈l,x.kids.length<=1048576):GC prog 34 [.sl 5 (l.map ay)] [] fun g Δ=>∃ h hs,Hd l.length h/\hs.length=l.length/\(∀ (i:Nat) x y,l[i]?=some x->hs[i]?=some y->Hd x.kids.length y)/\g=.v h /\
  Δ=.vech 62 5 (List.zipWith dc l hs) h::List.zipWith dB l hs:=by
 have hm:(l.map ay).length=l.length:=by simp
 refine ah func34 ntmps34 ?_;refine zaY ?_;intro a c;refine zaM ?_
 refine GW.loop (fun k:Nat=>l.length - k) (fun k fr Γ=>∃ R Z hs,fr=[.sl 5 (l.map ay),U,U,.v (.slice a (l.map ay).length c),.v (ii (k:Nat)),U,U,U,U,U,U,U,U,U,U,U,U,U,U,U,U,U,U]/\Γ=.vech 62 5 R (.slice a (l.map ay).length c)::List.zipWith dB (l.take k) hs/\k<=l.length/\hs.length=k /\
  (∀ (i:Nat) x y,l[i]?=some x->hs[i]?=some y->Hd x.kids.length y)/\R=List.zipWith dc (l.take k) hs++List.replicate (l.length - k) Z) 0 ?_ ?_
 ·exact zdb
 rintro k _ _ ⟨R,Z,hs,rfl,rfl,hk,Hz,Po,hR⟩
 have nc:R.length=l.length:=by rw [hR,aM,mJ,du,List.length_replicate];omega
 have fY:R.length=(l.map ay).length:=by rw [hm];exact nc
 by_cases aj:k < l.length
 ·have hx:l[k]?=some l[k]:=by simp [aj]
  have hr:(l.map ay)[k]?=some (ay l[k]):=by rw [aS,hx];rfl
  have dW:decide ((k:Int) < ((l.map ay).length:Int))=true:=by rw [hm];simpa using aj
  have hex:=he _ (br hx);have hc:=Tw l[k] hex
  have jQ:l.take (k+1)=l.take k++[l[k]]:=by rw [bS,hx];rfl
  have PJ:∀ {γ:Type} (f:Nd->Value->γ) (h:Value),List.zipWith f (l.take (k+1)) (hs++[h])=List.zipWith f (l.take k) hs++[f l[k] h]:=fun f h=>by
   rw [jQ,List.zipWith_append zf1];rfl
  have cq:∀ h,R.set k (dc l[k] h)=List.zipWith dc (l.take (k+1)) (hs++[h])++List.replicate (l.length - (k+1)) Z:=fun h=>by
   have hz:(List.zipWith dc (l.take k) hs).length=k:=by rw [mJ,du];omega
   exact zb7
  have Sa:∀ h,Hd l[k].kids.length h->∀ (i:Nat) x y,l[i]?=some x->(hs++[h])[i]?=some y->Hd x.kids.length y:=fun h hh i x y I M=>by
   by_cases hik:i < hs.length
   ·rw [eR hik] at M;exact Po i x y I M
   ·have h3:=(bq M).1;rw [aM,List.length_singleton] at h3
    have:i=k:=by omega
    subst this;rw [fw G,Hz,jx] at M;rw [hx] at I
    cases I;cases M;exact hh
  clear hR;have X9:=PJ dB;unfold dc dB at hc;exact zaO
 ·have dW:decide ((k:Int) < ((l.map ay).length:Int))=false:=by rw [hm];simpa using aj
  have nA:k=l.length:=by omega
  subst nA;rw [bH,jx,List.replicate_zero,bO] at hR;subst hR;rw [bH];refine zbA ?_;refine jc ?_;refine tI 0 rfl cJ rfl (fun x hx=>?_) ⟨_,hs,⟨_,_,by rw [hm]⟩,Hz,Po,rfl,rfl⟩
  rcases dw hx with rfl | hx
  ·rfl
  ·obtain ⟨i,hi⟩:=List.getElem?_of_mem hx;rw [List.getElem?_zipWith] at hi;split at hi
   ·cases hi;rfl
   ·cases hi
def iz (p:Src) (hg ha hf hn:Value) (fs ns:List Value):List Ob :=
 .vech 9 1 (bb p.globals) hg::.vech 56 2 (p.arrays.map aB) ha::.vech 58 3 (List.zipWith gB p.fns fs) hf::(List.zipWith gA p.fns fs++.vech 62 5 (List.zipWith dc p.nodes ns) hn::List.zipWith dB p.nodes ns)
structure sO (p:Src) (hg ha hf hn:Value) (fs ns:List Value):Prop where
 g:Hd p.globals.length hg
 a:Hd p.arrays.length ha
 f:Hd p.fns.length hf
 n:Hd p.nodes.length hn
 fl:fs.length=p.fns.length
 nl:ns.length=p.nodes.length
 fh:∀ (i:Nat) x y,p.fns[i]?=some x->fs[i]?=some y->Hd x.params.length y
 nh:∀ (i:Nat) x y,p.nodes[i]?=some x->ns[i]?=some y->Hd x.kids.length y
theorem kV {α:Type} {f:α->Value->Ob} (hf:∀ a h,(f a h).iJ=true) {l:List α} {hs:List Value}:∀ x∈List.zipWith f l hs,x.iJ=true:=fun x hx=>by
 obtain ⟨i,hi⟩:=List.getElem?_of_mem hx;rw [List.getElem?_zipWith] at hi;split at hi
 ·cases hi;exact hf _ _
 ·cases hi
theorem na (p:Src) (hg ha hf hn:Value) (fs ns:List Value):∀ x∈iz p hg ha hf hn fs ns,x.iJ=true:=fun x hx=>by
 unfold iz at hx
 rcases dw hx with rfl | hx
 ·rfl
 rcases dw hx with rfl | hx
 ·rfl
 rcases dw hx with rfl | hx
 ·rfl
 rcases pQ hx with hx | hx
 ·exact zb1
 rcases dw hx with rfl | hx
 ·rfl
 ·exact zb1
theorem Je {α:Type} {f:α->Value->Ob} (hf:∀ a h,(f a h).iJ=true) {l:List α} {hs:List Value} (r:Nat->Nat):(List.zipWith f l hs).map (Ob.ey r)=List.zipWith f l hs:=by
 refine (List.map_congr_left fun x hx=>?_).trans (List.map_id _);have:=kV hf x hx
 cases x <;> first | rfl | cases this
theorem Nz (x:Src) (hg:x.globals.length<=1048576) (ha:x.arrays.length<=1048576) (hf:x.fns.length<=1048576) (Pk:∀ f∈x.fns,f.params.length<=1048576) (hn:x.nodes.length<=1048576) (zS:∀ n∈x.nodes,n.kids.length<=1048576) :
  GC prog 8 [.agg (ar x)] [] fun g Δ=>∃ hg ha hf hn fs ns,sO x hg ha hf hn fs ns/\g=.agg [.v hg,.v ha,.v hf,.v hn]/\Δ=iz x hg ha hf hn fs ns:=by
 have h0:=BX x.globals hg;have I:=Nx x.arrays ha;have M:=WB x.fns hf Pk;have h3:=QV x.nodes hn zS;refine ah func8 ntmps8 ?_;refine bP [] h0 ?_;rintro _ _ ⟨_,⟨a0,c0,rfl⟩,rfl,rfl⟩;refine zax ?_;refine bP [] I ?_;rintro _ _ ⟨_,⟨a1,c1,rfl⟩,rfl,rfl⟩;refine zax ?_;refine bP [] M ?_;rintro _ _ ⟨_,fs,⟨a2,c2,rfl⟩,e1,e2,rfl,rfl⟩;rw [List.map_cons,Je (fun _ _=>rfl)];refine zax ?_;refine bP [] h3 ?_;rintro _ _ ⟨_,ns,⟨a3,c3,rfl⟩,e3,e4,rfl,rfl⟩;rw [List.map_cons,Je (fun _ _=>rfl)];refine zax ?_;refine jc ?_;refine Mr 3 rfl cJ rfl rfl rfl rfl ?_ ?_
 ·exact na x _ _ _ _ fs ns
 ·exact ⟨_,_,_,_,fs,ns,⟨⟨_,_,rfl⟩,⟨_,_,rfl⟩,⟨_,_,rfl⟩,⟨_,_,rfl⟩,e1,e3,e2,e4⟩,rfl,rfl⟩
end Go.Xg
set_option maxHeartbeats 1000000
namespace Go.Xg
open Go.RowKit Go.Xw Go.Proofs Tryz Go.Sp
open GV (U)
open Go.Xp (Tok Nd T)
attribute [local irreducible] GW GL GO YG GC GA aW aZ
theorem vc {α:Type} {l:List α} {q:α->Bool} {k:Nat} {x:α} (hx:l[k]?=some x) (hf:(l.take k).all q=true) (hb:q x=true):(l.take (k+1)).all q=true:=by
 rw [bS,hx,all_append,hf];simp [hb]
def idxOf (xs:List ae) (s:ae):Int:=match xs.findIdx? (fun x=>s==x) with | some i=>(i:Int) | none => -1
theorem U9 (xs:List ae) (s:ae) (hl:xs.length<=1099511627776):GF prog 91 [strs xs,.v (sv s)] [] (.v (ii (idxOf xs s))) []:=by
 refine ah func91 ntmps91 ?_;refine GW.range (xs.map fun s=>[GV.v (sv s)]).length (fun k fr Γ=>fr=[strs xs,.v (sv s),U,U,U,U,strs xs,.v (ii ((xs.map fun s=>[GV.v (sv s)]).length:Int)),.v (ii (k:Nat)),U,U,U,U,U,U,U,U,U,U]/\Γ=[]/\((xs.take k).all fun x=>!(s==x))=true) ?_ zfR ?_ ?_ ?_
 ·exact lj
 ·exact jd
 ·rintro k _ _ aj ⟨rfl,rfl,hc⟩
  have aj:k < xs.length:=by simpa using aj
  have hx:xs[k]?=some xs[k]:=by simp [aj]
  have hr:(xs.map fun s=>[GV.v (sv s)])[k]?=some [.v (sv xs[k])]:=by simp [aj]
  cases hb:(s==xs[k]) with
  | true =>
   have hi:xs.findIdx? (fun x=>s==x)=some k:=by
    rw [List.findIdx?_eq_some_iff_getElem];refine ⟨aj,hb,fun j hj=>?_⟩;rw [gU] at hc;have:=hc xs[j] zfX;exact zb8
   unfold idxOf;rw [hi];generalize xs[k]=x at *;exact ax
  | false =>
   have tJ:=vc (q:=fun x=>!(s==x)) hx hc (by rw [hb];rfl);generalize xs[k]=x at *;refine D ?_;exact ⟨rfl,rfl,_,_,Wk.aC ak,rfl,rfl,tJ⟩
 ·rintro _ _ ⟨rfl,rfl,hc⟩;rw [jN zfL] at hc
  have hi:xs.findIdx? (fun x=>s==x)=none:=by
   rw [List.findIdx?_eq_none_iff];intro x hx;rw [gU] at hc;have:=hc x hx;exact zb8
  unfold idxOf;rw [hi];exact ax
theorem Sl (xs:List ae) (s:ae):decide (0<=idxOf xs s)=xs.contains s:=by
 unfold idxOf
 cases h:xs.findIdx? (fun x=>s==x) with
 | some i =>
  rw [List.findIdx?_eq_some_iff_getElem] at h;obtain ⟨I,M,_⟩:=h
  have h3:s=xs[i]:=by simpa using M
  have:xs.contains s=true:=by rw [il,h3];exact List.getElem_mem _
  rw [this];simp
 | none =>
  rw [List.findIdx?_eq_none_iff] at h
  have:xs.contains s=false:=by
   cases hc:xs.contains s with
   | false=>rfl
   | true=>have:=h s (il.1 hc);simp at this
  rw [this];rfl
theorem kh (xs:List ae) (s:ae) (hl:xs.length<=1099511627776):GF prog 39 [strs xs,.v (sv s)] [] (.v (.bool (xs.contains s))) []:=by
 have hi:=U9 xs s hl;rw [<-Sl];generalize idxOf xs s=i at *;refine ah func39 ntmps39 ?_;refine V [] hi ?_;exact al
open Go.Xp (bD one levels Ar)
theorem ZC (p:Src) (hp:p.nodes.length<=1000000000000) (hk:∀ n∈p.nodes,n.kids.length<=1000000000000):∀ (f a d:Nat) (e:Int),d<=801->qk p.nodes f a d=some e->GF prog 149 [.agg (ar p),.v (ii (a:Nat)),.v (ii (d:Nat))] [] (.v (ii e)) []:=by
 intro f
 induction f using Nat.strongRecOn with
 | _ f ih =>
 intro a d e hd h
 cases f with
 | zero=>simp [qk] at h
 | succ f =>
 rw [qk] at h;refine c8 func149 ntmps149 ?_
 by_cases I:p.nodes.length<=a
 ·rw [ab (.inl I)] at h;cases h
  have dx:decide (((p.nodes.map ay).length:Int)<=(a:Int))=true:=by simpa using I
  exact ax
 have dx:decide (((p.nodes.map ay).length:Int)<=(a:Int))=false:=by simpa using I
 by_cases M:d > 800
 ·rw [ab (.inr M)] at h;cases h
  have sF:decide ((800:Int) < (d:Int))=true:=by simpa using by omega
  exact ax
 have sF:decide ((800:Int) < (d:Int))=false:=by simpa using by omega
 rw [F G] at h
 cases hn:p.nodes[a]? with
 | none=>exact zdY
 | some n =>
 rw [hn] at h;simp only at h;have hr:=jS hn;have fB:=hk n (br hn);refine D ?_
 refine GW.range (n.kids.map fun i=>[GV.v (ii i)]).length (fun k fr Γ=>∃ nx g,fr=[U,.v (ii (a:Nat)),.v (ii (d:Nat)),.loc 0 0,U,U,U,.v (ii nx),U,U,U,U,U,U,U,U,U,U,U,U,U,U,U,U,U,U,ints n.kids,.v (ii ((n.kids.map fun i=>[GV.v (ii i)]).length:Int)),.v (ii (k:Nat)),U,U,U,U,U,U,U,U,U,U,U,U,U,U,U] /\
   Γ=[.box 33 (ar p)]/\0<=nx/\g<=f/\pb p.nodes g (n.kids.drop k) nx d=some e) ?_ zgb ?_ ?_ ?_
 ·exact ⟨_,_,Wk.aC ak,_,f,rfl,rfl,by omega,aD _,h⟩
 ·rintro k _ _ ⟨_,_,rfl,rfl,_⟩;exact dp
 ·rintro k _ _ aj ⟨nx,g,rfl,rfl,ox,hg,h⟩
  have aj:k < n.kids.length:=by simpa using aj
  have hx:n.kids[k]?=some n.kids[k]:=by simp [aj]
  rw [lT aj] at h;generalize n.kids[k]=x at *;have uE:=kE hx
  cases g with
  | zero=>simp [pb] at h
  | succ g =>
  rw [pb] at h
  by_cases hxn:x=nx
  ·subst hxn;rw [ab rfl] at h
   have hb:(x != x)=false:=by simp
   cases bW:qk p.nodes g x.toNat (d+1) with
   | none=>rw [bW] at h;cases h
   | some y =>
   rw [bW] at h;simp only at h;have AV:=ih g G x.toNat (d+1) y G bW;rw [Int.toNat_of_nonneg ox] at AV
   by_cases hy:y < 0
   ·rw [ab hy] at h;cases h
    have PF:decide (y < (0:Int))=true:=by simpa using hy
    refine D ?_;refine V [] AV ?_;exact al
   ·rw [F hy] at h
    have PF:decide (y < (0:Int))=false:=by simpa using hy
    refine D ?_;refine V [] AV ?_;exact ⟨rfl,rfl,_,_,Wk.aC ak,_,g,rfl,rfl,by omega,by omega,h⟩
  ·rw [F hxn] at h;cases h
   have hb:(x != nx)=true:=by simpa using hxn
   exact ax
 ·rintro _ _ ⟨nx,g,rfl,rfl,ox,hg,h⟩;rw [bV,List.drop_length] at h
  have mT:nx=e:=by cases g <;> (rw [pb] at h;cases h;rfl)
  subst mT;exact ax
theorem aah (a n:Int) (s:ae) (ks:List Int) (l:List T) (hs:s.length<=1099511627776) (hl:l.length<=1099511627776) (ha:decide (a < 0)=false):GF prog 183 [.agg (cT (.mk ⟨1,a,n,s,ks⟩ l))] [] (.v (.bool (cv (.mk ⟨1,a,n,s,ks⟩ l)))) []:=by
 have how:cv (.mk ⟨1,a,n,s,ks⟩ l)=(decide ((0:Int)<=n)&&(decide (n<=2147483647)&&((s==[])&&((l.length:Int)==0)))):=by unfold cv own;rw [F zfM];rfl
 rw [how];refine c8 func183 ntmps183 ?_
 cases h0:decide ((0:Int)<=n) with
 | false =>
  exact ax
 | true =>
  cases I:decide (n<=2147483647) with
  | false =>
   exact ax
  | true =>
   cases M:(s==[]) with
   | false =>
    exact ax
   | true =>
    refine zc5 ?_;exact ⟨by first | rfl | (rw [aX];rfl),rfl⟩
theorem aai (a:Int) (s:ae) (ks:List Int) (l:List T) (hs:s.length<=1099511627776) (hl:l.length<=1099511627776) (ha:decide (a < 0)=false):GF prog 183 [.agg (cT (.mk ⟨2,a,0,s,ks⟩ l))] [] (.v (.bool (cv (.mk ⟨2,a,0,s,ks⟩ l)))) []:=by
 have how:cv (.mk ⟨2,a,0,s,ks⟩ l)=(bs s&&((l.length:Int)==0)):=by unfold cv own;rw [F zfM];rfl
 rw [how];refine c8 func183 ntmps183 ?_
 cases h0:bs s with
 | false =>
  exact zah
 | true =>
  refine D ?_;have hc:=fc s hs;rw [h0] at hc;exact zag
theorem aaj (a:Int) (s:ae) (ks:List Int) (l:List T) (hs:s.length<=1099511627776) (hl:l.length<=1099511627776) (ha:decide (a < 0)=false):GF prog 183 [.agg (cT (.mk ⟨3,a,0,s,ks⟩ l))] [] (.v (.bool (cv (.mk ⟨3,a,0,s,ks⟩ l)))) []:=by
 have how:cv (.mk ⟨3,a,0,s,ks⟩ l)=(bs s&&(((l.length:Int)==1)&&bE 1 0 l)):=by unfold cv own;rw [F zfM];rfl
 rw [how];refine c8 func183 ntmps183 ?_
 cases h0:bs s with
 | false =>
  exact zah
 | true =>
  cases I:((l.length:Int)==1) with
  | false =>
   have dx:((((aQ l).length:Int)==1))=false:=by rw [<-aX l] at I;exact I
   exact zah
  | true =>
   have dx:((((aQ l).length:Int)==1))=true:=by rw [<-aX l] at I;exact I
   refine D ?_;have hc:=fc s hs;rw [h0] at hc;refine V [] hc ?_;have hc:=fZ (.mk ⟨3,a,0,s,ks⟩ l) 1 hl;exact zag
theorem aak (a:Int) (s:ae) (ks:List Int) (l:List T) (hs:s.length<=1099511627776) (hl:l.length<=1099511627776) (ha:decide (a < 0)=false):GF prog 183 [.agg (cT (.mk ⟨4,a,0,s,ks⟩ l))] [] (.v (.bool (cv (.mk ⟨4,a,0,s,ks⟩ l)))) []:=by
 have how:cv (.mk ⟨4,a,0,s,ks⟩ l)=(bs s&&bE l.length 0 l):=by unfold cv own;rw [F zfM];rfl
 rw [how];refine c8 func183 ntmps183 ?_
 cases h0:bs s with
 | false =>
  exact zah
 | true =>
  refine D ?_;have hc:=fc s hs;rw [h0] at hc;refine V [] hc ?_;have hc:=fZ (.mk ⟨4,a,0,s,ks⟩ l) (aQ l).length hl;exact zag
theorem aam (a:Int) (s:ae) (ks:List Int) (l:List T) (hs:s.length<=1099511627776) (hl:l.length<=1099511627776) (ha:decide (a < 0)=false):GF prog 183 [.agg (cT (.mk ⟨6,a,0,s,ks⟩ l))] [] (.v (.bool (cv (.mk ⟨6,a,0,s,ks⟩ l)))) []:=by
 have how:cv (.mk ⟨6,a,0,s,ks⟩ l)=(eP s&&(((l.length:Int)==2)&&bE 2 0 l)):=by unfold cv own;rw [F zfM];rfl
 rw [how];refine c8 func183 ntmps183 ?_
 cases h0:eP s with
 | false =>
  refine D ?_;have hc:=vC s;rw [h0] at hc;exact zbe
 | true =>
  cases I:((l.length:Int)==2) with
  | false =>
   have dx:((((aQ l).length:Int)==2))=false:=by rw [<-aX l] at I;exact I
   refine D ?_;have hc:=vC s;rw [h0] at hc;exact zbe
  | true =>
   have dx:((((aQ l).length:Int)==2))=true:=by rw [<-aX l] at I;exact I
   refine D ?_;have hc:=vC s;rw [h0] at hc;refine V [] hc ?_;have hc:=fZ (.mk ⟨6,a,0,s,ks⟩ l) 2 hl;exact zag
theorem aan (a:Int) (s:ae) (ks:List Int) (l:List T) (hs:s.length<=1099511627776) (hl:l.length<=1099511627776) (ha:decide (a < 0)=false):GF prog 183 [.agg (cT (.mk ⟨7,a,0,s,ks⟩ l))] [] (.v (.bool (cv (.mk ⟨7,a,0,s,ks⟩ l)))) []:=by
 have how:cv (.mk ⟨7,a,0,s,ks⟩ l)=(bs s&&(((l.length:Int)==1)&&bE 1 0 l)):=by unfold cv own;rw [F zfM];rfl
 rw [how];refine c8 func183 ntmps183 ?_
 cases h0:bs s with
 | false =>
  exact zah
 | true =>
  cases I:((l.length:Int)==1) with
  | false =>
   have dx:((((aQ l).length:Int)==1))=false:=by rw [<-aX l] at I;exact I
   exact zah
  | true =>
   have dx:((((aQ l).length:Int)==1))=true:=by rw [<-aX l] at I;exact I
   refine D ?_;have hc:=fc s hs;rw [h0] at hc;refine V [] hc ?_;have hc:=fZ (.mk ⟨7,a,0,s,ks⟩ l) 1 hl;exact zag
theorem aao (a:Int) (s:ae) (ks:List Int) (l:List T) (hs:s.length<=1099511627776) (hl:l.length<=1099511627776) (ha:decide (a < 0)=false):GF prog 183 [.agg (cT (.mk ⟨8,a,0,s,ks⟩ l))] [] (.v (.bool (cv (.mk ⟨8,a,0,s,ks⟩ l)))) []:=by
 have how:cv (.mk ⟨8,a,0,s,ks⟩ l)=(bs s&&(((l.length:Int)==2)&&bE 2 0 l)):=by unfold cv own;rw [F zfM];rfl
 rw [how];refine c8 func183 ntmps183 ?_
 cases h0:bs s with
 | false =>
  exact zah
 | true =>
  cases I:((l.length:Int)==2) with
  | false =>
   have dx:((((aQ l).length:Int)==2))=false:=by rw [<-aX l] at I;exact I
   exact zah
  | true =>
   have dx:((((aQ l).length:Int)==2))=true:=by rw [<-aX l] at I;exact I
   refine D ?_;have hc:=fc s hs;rw [h0] at hc;refine V [] hc ?_;have hc:=fZ (.mk ⟨8,a,0,s,ks⟩ l) 2 hl;exact zag
theorem YO (a:Int) (s:ae) (ks:List Int) (l:List T) (hs:s.length<=1099511627776) (hl:l.length<=1099511627776) (ha:decide (a < 0)=false):GF prog 183 [.agg (cT (.mk ⟨10,a,0,s,ks⟩ l))] [] (.v (.bool (cv (.mk ⟨10,a,0,s,ks⟩ l)))) []:=by
 have how:cv (.mk ⟨10,a,0,s,ks⟩ l)=((s==[])&&(((l.length:Int)==2)&&bE 1 0 l)):=by unfold cv own;rw [F zfM];rfl
 rw [how];refine c8 func183 ntmps183 ?_
 cases h0:(s==[]) with
 | false =>
  exact ax
 | true =>
  cases I:((l.length:Int)==2) with
  | false =>
   have dx:((((aQ l).length:Int)==2))=false:=by rw [<-aX l] at I;exact I
   exact ax
  | true =>
   have dx:((((aQ l).length:Int)==2))=true:=by rw [<-aX l] at I;exact I
   refine D ?_;have hc:=fZ (.mk ⟨10,a,0,s,ks⟩ l) 1 hl;exact zag
theorem YP (a:Int) (s:ae) (ks:List Int) (l:List T) (hs:s.length<=1099511627776) (hl:l.length<=1099511627776) (ha:decide (a < 0)=false):GF prog 183 [.agg (cT (.mk ⟨11,a,0,s,ks⟩ l))] [] (.v (.bool (cv (.mk ⟨11,a,0,s,ks⟩ l)))) []:=by
 have how:cv (.mk ⟨11,a,0,s,ks⟩ l)=((s==[])&&(((l.length:Int)==1)&&bE 1 0 l)):=by unfold cv own;rw [F zfM];rfl
 rw [how];refine c8 func183 ntmps183 ?_
 cases h0:(s==[]) with
 | false =>
  exact ax
 | true =>
  cases I:((l.length:Int)==1) with
  | false =>
   have dx:((((aQ l).length:Int)==1))=false:=by rw [<-aX l] at I;exact I
   exact ax
  | true =>
   have dx:((((aQ l).length:Int)==1))=true:=by rw [<-aX l] at I;exact I
   refine D ?_;have hc:=fZ (.mk ⟨11,a,0,s,ks⟩ l) 1 hl;exact zag
theorem YR (a:Int) (s:ae) (ks:List Int) (l:List T) (hs:s.length<=1099511627776) (hl:l.length<=1099511627776) (ha:decide (a < 0)=false):GF prog 183 [.agg (cT (.mk ⟨12,a,0,s,ks⟩ l))] [] (.v (.bool (cv (.mk ⟨12,a,0,s,ks⟩ l)))) []:=by
 have how:cv (.mk ⟨12,a,0,s,ks⟩ l)=((s==[])&&(((l.length:Int)==1)&&bE 1 0 l)):=by unfold cv own;rw [F zfM];rfl
 rw [how];refine c8 func183 ntmps183 ?_
 cases h0:(s==[]) with
 | false =>
  exact ax
 | true =>
  cases I:((l.length:Int)==1) with
  | false =>
   have dx:((((aQ l).length:Int)==1))=false:=by rw [<-aX l] at I;exact I
   exact ax
  | true =>
   have dx:((((aQ l).length:Int)==1))=true:=by rw [<-aX l] at I;exact I
   refine D ?_;have hc:=fZ (.mk ⟨12,a,0,s,ks⟩ l) 1 hl;exact zag
theorem YS (a:Int) (s:ae) (ks:List Int) (l:List T) (hs:s.length<=1099511627776) (hl:l.length<=1099511627776) (ha:decide (a < 0)=false):GF prog 183 [.agg (cT (.mk ⟨13,a,0,s,ks⟩ l))] [] (.v (.bool (cv (.mk ⟨13,a,0,s,ks⟩ l)))) []:=by
 have how:cv (.mk ⟨13,a,0,s,ks⟩ l)=(bs s&&(((l.length:Int)==1)&&bE 1 0 l)):=by unfold cv own;rw [F zfM];rfl
 rw [how];refine c8 func183 ntmps183 ?_
 cases h0:bs s with
 | false =>
  exact zah
 | true =>
  cases I:((l.length:Int)==1) with
  | false =>
   have dx:((((aQ l).length:Int)==1))=false:=by rw [<-aX l] at I;exact I
   exact zah
  | true =>
   have dx:((((aQ l).length:Int)==1))=true:=by rw [<-aX l] at I;exact I
   refine D ?_;have hc:=fc s hs;rw [h0] at hc;refine V [] hc ?_;have hc:=fZ (.mk ⟨13,a,0,s,ks⟩ l) 1 hl;exact zag
theorem aal (a:Int) (s:ae) (ks:List Int) (l:List T) (hs:s.length<=1099511627776) (hl:l.length<=1099511627776) (ha:decide (a < 0)=false):GF prog 183 [.agg (cT (.mk ⟨5,a,0,s,ks⟩ l))] [] (.v (.bool (cv (.mk ⟨5,a,0,s,ks⟩ l)))) []:=by
 have how:cv (.mk ⟨5,a,0,s,ks⟩ l)=((s==[45] || s==[33] || s==[126])&&(((l.length:Int)==1)&&bE 1 0 l)):=by unfold cv own;rw [F zfM];rfl
 rw [how];refine c8 func183 ntmps183 ?_
 cases I:(s==[45]) with
 | true =>
  cases h4:((l.length:Int)==1) with
  | false =>
   have O7:(((aQ l).length:Int)==1)=false:=by rw [<-aX l] at h4;exact h4
   exact ax
  | true =>
   have O7:(((aQ l).length:Int)==1)=true:=by rw [<-aX l] at h4;exact h4
   exact zcq
 | false =>
  cases M:(s==[33]) with
  | true =>
   cases h4:((l.length:Int)==1) with
   | false =>
    have O7:(((aQ l).length:Int)==1)=false:=by rw [<-aX l] at h4;exact h4
    exact ax
   | true =>
    have O7:(((aQ l).length:Int)==1)=true:=by rw [<-aX l] at h4;exact h4
    exact zcq
  | false =>
   cases h3:(s==[126]) with
   | false =>
    exact ax
   | true =>
    cases h4:((l.length:Int)==1) with
    | false =>
     have O7:(((aQ l).length:Int)==1)=false:=by rw [<-aX l] at h4;exact h4
     exact ax
    | true =>
     have O7:(((aQ l).length:Int)==1)=true:=by rw [<-aX l] at h4;exact h4
     exact zcq
theorem aap (a:Int) (s:ae) (ks:List Int) (l:List T) (hs:s.length<=1099511627776) (hl:l.length<=1099511627776) (ha:decide (a < 0)=false):GF prog 183 [.agg (cT (.mk ⟨9,a,0,s,ks⟩ l))] [] (.v (.bool (cv (.mk ⟨9,a,0,s,ks⟩ l)))) []:=by
 have how:cv (.mk ⟨9,a,0,s,ks⟩ l)=((s==[])&&((((l.length:Int)==2) || ((l.length:Int)==3))&&bE 1 0 l)):=by unfold cv own;rw [F zfM];rfl
 rw [how];refine c8 func183 ntmps183 ?_
 cases h0:(s==[]) with
 | false =>
  exact ax
 | true =>
  cases I:((l.length:Int)==2) with
  | true =>
   have dx:(((aQ l).length:Int)==2)=true:=by rw [<-aX l] at I;exact I
   exact ze2
  | false =>
   have dx:(((aQ l).length:Int)==2)=false:=by rw [<-aX l] at I;exact I
   cases M:((l.length:Int)==3) with
   | true =>
    have sF:(((aQ l).length:Int)==3)=true:=by rw [<-aX l] at M;exact M
    exact ze2
   | false =>
    have sF:(((aQ l).length:Int)==3)=false:=by rw [<-aX l] at M;exact M
    exact ax
theorem YT (a:Int) (s:ae) (ks:List Int) (l:List T) (hs:s.length<=1099511627776) (hl:l.length<=1099511627776) (ha:decide (a < 0)=false):GF prog 183 [.agg (cT (.mk ⟨14,a,0,s,ks⟩ l))] [] (.v (.bool (cv (.mk ⟨14,a,0,s,ks⟩ l)))) []:=by
 have how:cv (.mk ⟨14,a,0,s,ks⟩ l)=((l.all fun x=>iT x.n.kind)&&(s==[])):=by unfold cv own;rw [F zfM];rfl
 rw [how];refine ah func183 ntmps183 ?_;refine GW.range (aQ l).length (fun k fr Γ=>∃ n,fr=[U,.loc 0 0,U,.loc 1 0,U,U,U,U,U,U,U,U,U,U,U,U,U,U,U,U,U,U,U,U,U,U,U,U,U,U,U,U,U,U,U,U,U,U,U,U,U,U,U,U,U,U,U,U,U,U,U,U,U,U,U,U,U,U,U,U,U,U,U,U,U,U,U,U,U,U,U,U,U,U,U,U,U,U,U,U,U,U,U,U,U,U,U,U,U,U,U,U,U,U,U,U,U,U,U,U,U,U,U,U,U,U,U,U,U,U,U,U,U,U,U,U,U,U,U,U,U,U,U,U,U,U,U,U,U,U,U,U,U,U,U,U,U,U,U,U,U,U,U,U,U,U,U,U,U,U,U,U,U,U,U,U,U,U,U,U,U,U,U,U,U,U,U,U,U,U,U,U,U,U,U,U,.sl 6 (aQ l),.v (ii ((aQ l).length:Int)),.v (ii (k:Nat)),U,U,U,U,U,U,U,U,U,U,U,U]/\Γ=[.box 65 (cT (.mk ⟨14,a,0,s,ks⟩ l)),.box 62 n]/\n=ay ⟨14,a,0,s,ks⟩/\((l.take k).all fun x=>iT x.n.kind)=true) ?_ (by rw [aX];exact hl) ?_ ?_ ?_
 ·exact ⟨_,_,Wk.aC ak,_,rfl,rfl,rfl,rfl⟩
 ·rintro k _ _ ⟨_,rfl,rfl,_⟩;exact dp
 ·rintro k _ _ hk ⟨_,rfl,rfl,rfl,hf⟩
  have hk:k < l.length:=by rw [aX] at hk;exact hk
  have hx:l[k]?=some l[k]:=by simp [hk]
  have hr:=db hx;generalize l[k]=x at *;have he:=JB x.n.kind
  cases hb:iT x.n.kind with
  | true =>
   rw [hb] at he;refine zbQ ?_;exact ⟨rfl,rfl,_,_,(Wk.cut (n:=2) (dr rfl) rfl).trans (Wk.aC ak),_,rfl,rfl,rfl,by rw [bS,hx,all_append,hf];simp only [Option.toList,all_cons,all_nil,hb];rfl⟩
  | false =>
   rw [hb] at he;refine zbQ ?_;refine cH ?_
   have ha:(l.all fun x=>iT x.n.kind)=false:=by
    exact zdg
   rw [ha];exact zai
 ·rintro _ _ ⟨_,rfl,rfl,rfl,hf⟩
  have hf:(l.all fun x=>iT x.n.kind)=true:=by
   rw [jN zgE] at hf;exact hf
  rw [hf];exact ax
theorem aat (k a n:Int) (s:ae) (ks:List Int) (l:List T) (hk:k=1\/k=2\/k=3\/k=4\/k=5\/k=6\/k=7\/k=8\/k=9\/k=10\/k=11\/k=12\/k=13\/k=14\/True) (hx:¬ (k=1\/k=2\/k=3\/k=4\/k=5\/k=6\/k=7\/k=8\/k=9\/k=10\/k=11\/k=12\/k=13\/k=14)) (ha:decide (a < 0)=false) (hn:(n != 0)=false):GF prog 183 [.agg (cT (.mk ⟨k,a,n,s,ks⟩ l))] [] (.v (.bool (cv (.mk ⟨k,a,n,s,ks⟩ l)))) []:=by
 simp only [not_or] at hx;obtain ⟨I,M,h3,h4,h5,h6,h7,h8,h9,nb,qx,qe,fv,C6⟩:=hx
 have I:(k==1)=false:=by simpa using I
 have h1x:(k != 1)=true:=by simp only [bne,I];rfl
 have M:(k==2)=false:=by simpa using M
 have h3:(k==3)=false:=by simpa using h3
 have h4:(k==4)=false:=by simpa using h4
 have h5:(k==5)=false:=by simpa using h5
 have h6:(k==6)=false:=by simpa using h6
 have h7:(k==7)=false:=by simpa using h7
 have h8:(k==8)=false:=by simpa using h8
 have h9:(k==9)=false:=by simpa using h9
 have nb:(k==10)=false:=by simpa using nb
 have qx:(k==11)=false:=by simpa using qx
 have qe:(k==12)=false:=by simpa using qe
 have fv:(k==13)=false:=by simpa using fv
 have C6:(k==14)=false:=by simpa using C6
 have how:cv (.mk ⟨k,a,n,s,ks⟩ l)=false:=by
  show own ⟨k,a,n,s,ks⟩ _ _ _=_;simp [own,I,M,h3,h4,h5,h6,h7,h8,h9,nb,qx,qe,fv,C6]
 exact zdw
theorem aaq (k a n:Int) (s:ae) (ks:List Int) (l:List T) (ha:decide (a < 0)=true):GF prog 183 [.agg (cT (.mk ⟨k,a,n,s,ks⟩ l))] [] (.v (.bool (cv (.mk ⟨k,a,n,s,ks⟩ l)))) []:=by
 have how:cv (.mk ⟨k,a,n,s,ks⟩ l)=false:=by
  show own ⟨k,a,n,s,ks⟩ _ _ _=_;unfold own;rw [ab ha]
 exact zdw
theorem aas (k a n:Int) (s:ae) (ks:List Int) (l:List T) (ha:decide (a < 0)=false) (hk:(k != 1)=true) (hn:(n != 0)=true):GF prog 183 [.agg (cT (.mk ⟨k,a,n,s,ks⟩ l))] [] (.v (.bool (cv (.mk ⟨k,a,n,s,ks⟩ l)))) []:=by
 have how:cv (.mk ⟨k,a,n,s,ks⟩ l)=false:=by
  show own ⟨k,a,n,s,ks⟩ _ _ _=_;unfold own;rw [F zfM,ab (by show ((k != 1)&&(n != 0))=true;rw [hk,hn];rfl)]
 exact zdw
theorem SB (t:T) (hs:t.n.s.length<=1099511627776) (hl:t.kids.length<=1099511627776):GF prog 183 [.agg (cT t)] [] (.v (.bool (cv t))) []:=by
 obtain ⟨⟨k,a,n,s,ks⟩,l⟩:=t
 cases ha:decide (a < 0) with
 | true=>exact aaq k a n s ks l ha
 | false =>
 by_cases wq:k=1
 ·subst wq;exact aah a n s ks l hs hl ha
 by_cases hn:n=0
 ·subst hn
  by_cases h:k=1\/k=2\/k=3\/k=4\/k=5\/k=6\/k=7\/k=8\/k=9\/k=10\/k=11\/k=12\/k=13\/k=14
  ·rcases h with rfl | rfl | rfl | rfl | rfl | rfl | rfl | rfl | rfl | rfl | rfl | rfl | rfl | rfl
   ·exact absurd rfl wq
   ·exact aai a s ks l hs hl ha
   ·exact aaj a s ks l hs hl ha
   ·exact aak a s ks l hs hl ha
   ·exact aal a s ks l hs hl ha
   ·exact aam a s ks l hs hl ha
   ·exact aan a s ks l hs hl ha
   ·exact aao a s ks l hs hl ha
   ·exact aap a s ks l hs hl ha
   ·exact YO a s ks l hs hl ha
   ·exact YP a s ks l hs hl ha
   ·exact YR a s ks l hs hl ha
   ·exact YS a s ks l hs hl ha
   ·exact YT a s ks l hs hl ha
  ·exact aat k a 0 s ks l zfL h ha rfl
 ·exact aas k a n s ks l ha (by simpa using wq) zgA
theorem N1 (l:List T):cE l=l.all dO:=by
 induction l with
 | nil=>simp [cE]
 | cons a l ih=>simp [cE,ih]
theorem Sz:∀ (sz:Nat) (t:T),SizeOf.sizeOf t<=sz->IH t->GF prog 150 [.agg (cT t)] [] (.v (.bool (dO t))) []:=by
 intro sz
 induction sz with
 | zero=>intro t h _;cases t;simp at h
 | succ sz ih =>
 intro t cX gO;obtain ⟨n,l⟩:=t;have acD:=gO;rw [IH] at gO;obtain ⟨hs,hl,hm⟩:=gO
 have how:dO (.mk n l)=(cE l&&cv (.mk n l)):=by rw [dO]
 rw [how];rw [N1];refine ah func150 ntmps150 ?_;refine GW.range (aQ l).length (fun k fr Γ=>fr=[U,.loc 0 0,U,U,U,U,.sl 6 (aQ l),.v (ii ((aQ l).length:Int)),.v (ii (k:Nat)),U,U,U,U,U,U,U,U,U]/\Γ=[.box 65 (cT (.mk n l))]/\((l.take k).all dO)=true) ?_ (by rw [aX];exact hl) ?_ ?_ ?_
 ·exact lj
 ·exact jd
 ·rintro k _ _ hk ⟨rfl,rfl,hf⟩
  have hk:k < l.length:=by rw [aX] at hk;exact hk
  have hx:l[k]?=some l[k]:=by simp [hk]
  have Ek:=br hx;have aj:=List.sizeOf_lt_of_mem Ek;have hr:=db hx;have he:=ih l[k] zgv (IJ hm Ek);generalize l[k]=x at *
  cases hb:dO x with
  | true =>
   rw [hb] at he;refine zbQ ?_;exact ⟨rfl,rfl,_,_,(Wk.cut (n:=1) (dr rfl) rfl).trans (Wk.aC ak),rfl,rfl,by rw [bS,hx,all_append,hf];simp only [Option.toList,all_cons,all_nil,hb];rfl⟩
  | false =>
   rw [hb] at he;refine zbQ ?_;refine cH ?_
   have ha:(l.all dO)=false:=by
    exact zdg
   rw [ha];exact zai
 ·rintro _ _ ⟨rfl,rfl,hf⟩
  have hf:(l.all dO)=true:=by
   rw [jN zgE] at hf;exact hf
  rw [hf];refine D ?_;refine V [] (SB (.mk n l) hs hl) ?_;exact al
theorem Sy (t:T) (h:IH t):GF prog 150 [.agg (cT t)] [] (.v (.bool (dO t))) []:=Sz _ t (aD _) h
structure DL (p:Src):Prop where
 globals:p.globals.length<=1000000000000/\∀ s∈p.globals,s.length<=1000000000000
 arrays:p.arrays.length<=1000000000000/\∀ a∈p.arrays,a.name.length<=1000000000000
 fns:p.fns.length<=1000000000000/\∀ f∈p.fns,f.name.length<=1000000000000/\f.params.length<=1000000000000/\∀ s∈f.params,s.length<=1000000000000
 nodes:p.nodes.length<=1000000000000/\∀ n∈p.nodes,n.s.length<=1000000000000/\n.kids.length<=1000000000000
theorem LC {l:List ae} {i:Nat} {s:ae} (h:l[i]?=some s):(l.map fun s=>[GV.v (sv s)])[i]?=some [.v (sv s)]:=by rw [aS,h];rfl
theorem An {l:List Ar} {i:Nat} {s:Ar} (h:l[i]?=some s):(l.map aB)[i]?=some (aB s):=by rw [aS,h];rfl
theorem vJ {l:List Go.Sp.Fn} {i:Nat} {s:Go.Sp.Fn} (h:l[i]?=some s):(l.map au)[i]?=some (au s):=by rw [aS,h];rfl
theorem xa {α:Type} {l:List α} {q:α->Bool} {k:Nat} {x:α} (hx:l[k]?=some x) (hb:q x=false):l.all q=false:=by
 exact zdg
theorem Dx (p:Src) (hp:DL p) (b:Bool) (h:p8 p=some b):GF prog 104 [.agg (ar p)] [] (.v (.bool b)) []:=by
 unfold p8 at h;refine ah func104 ntmps104 ?_;refine GW.range (p.globals.map fun s=>[GV.v (sv s)]).length (fun k fr Γ=>fr=[U,.loc 0 0,U,.v (ii 0),U,U,U,U,U,U,U,U,U,U,U,strs p.globals,.v (ii ((p.globals.map fun s=>[GV.v (sv s)]).length:Int)),.v (ii (k:Nat)),U,U,U,U,U,U,U,U,U,U,U,U,U,U,U,U,U,U,U,U,U,U,U,U,U,U,U,U,U,U,U,U,U,U,U,U,U,U,U,U,U,U,U,U,U,U,U,U,U,U,U,U,U,U,U,U,U,U,U,U,U,U,U,U,U,U,U,U,U,U,U,U,U,U,U,U,U,U,U,U,U,U,U,U,U,U,U]/\Γ=[.box 33 (ar p)]/\((p.globals.take k).all bs)=true) ?_ (by simpa using by have:=hp.globals.1;omega) ?_ ?_ ?_
 ·exact lj
 ·exact jd
 ·rintro k _ _ hk ⟨rfl,rfl,hf⟩
  have hk:k < p.globals.length:=by simpa using hk
  have hx:p.globals[k]?=some p.globals[k]:=by simp [hk]
  have hr:=LC hx;have hl:=hp.globals.2 _ (br hx);generalize p.globals[k]=x at *;have he:=fc x G
  cases hb:bs x with
  | true =>
   rw [hb] at he;refine zbQ ?_;exact ⟨rfl,rfl,_,_,Wk.aC ak,rfl,rfl,vc hx hf hb⟩
  | false =>
   rw [hb] at he;rw [ab (show da p.globals=false from xa hx hb)] at h;cases h;refine zbQ ?_;exact al
 ·rintro _ _ ⟨rfl,rfl,hf⟩;rw [jN zfL] at hf;rw [F (by rw [show da p.globals=true from hf];decide)] at h;refine D ?_;refine GW.range (p.arrays.map aB).length (fun k fr Γ=>fr=[U,.loc 0 0,U,.v (ii 0),U,U,U,U,U,U,U,U,U,U,U,U,U,U,U,U,U,U,U,U,U,U,.sl 2 (p.arrays.map aB),.v (ii ((p.arrays.map aB).length:Int)),.v (ii (k:Nat)),U,U,U,U,U,U,U,U,U,U,U,U,U,U,U,U,U,U,U,U,U,U,U,U,U,U,U,U,U,U,U,U,U,U,U,U,U,U,U,U,U,U,U,U,U,U,U,U,U,U,U,U,U,U,U,U,U,U,U,U,U,U,U,U,U,U,U,U,U,U,U,U,U,U,U,U]/\Γ=[.box 33 (ar p)]/\((p.arrays.take k).all o7)=true) ?_ (by simpa using by have:=hp.arrays.1;omega) ?_ ?_ ?_
  ·exact lj
  ·exact jd
  ·rintro k _ _ hk ⟨rfl,rfl,hf⟩
   have hk:k < p.arrays.length:=by simpa using hk
   have hx:p.arrays[k]?=some p.arrays[k]:=by simp [hk]
   have hr:=An hx;have hl:=hp.arrays.2 _ (br hx);generalize p.arrays[k]=x at *;have he:=fc x.name G
   cases hb:bs x.name with
   | false =>
    rw [hb] at he;rw [ab (xa hx (by simp [o7,hb]))] at h;cases h;refine zbQ ?_;exact al
   | true =>
    rw [hb] at he
    cases I:decide (x.size < 0) with
    | true =>
     rw [ab (xa hx (by simp only [o7,hb,I];rfl))] at h;cases h;refine zbQ ?_;exact al
    | false =>
     cases M:decide (2147483647 < x.size) with
     | true =>
      rw [ab (xa hx (by simp only [o7,hb,I,M];rfl))] at h;cases h;refine zbQ ?_;exact al
     | false =>
      refine zbQ ?_;exact ⟨rfl,rfl,_,_,(Wk.cut (n:=1) (dr rfl) rfl).trans (Wk.aC ak),rfl,rfl,vc hx hf (by simp only [o7,hb,I,M];rfl)⟩
  ·rintro _ _ ⟨rfl,rfl,hf⟩;rw [jN zfL] at hf;rw [F (by rw [hf];decide)] at h;refine D ?_;refine GW.range (p.fns.map au).length (fun k fr Γ=>∃ nx,fr=[U,.loc 0 0,U,.v (ii nx),U,U,U,U,U,U,U,U,U,U,U,U,U,U,U,U,U,U,U,U,U,U,U,U,U,U,U,U,U,U,U,U,U,U,U,U,U,U,U,U,U,U,U,U,.sl 3 (p.fns.map au),.v (ii ((p.fns.map au).length:Int)),.v (ii (k:Nat)),U,U,U,U,U,U,U,U,U,U,U,U,U,U,U,U,U,U,U,U,U,U,U,U,U,U,U,U,U,U,U,U,U,U,U,U,U,U,U,U,U,U,U,U,U,U,U,U,U,U,U,U,U,U]/\Γ=[.box 33 (ar p)]/\0<=nx/\(match iK p.nodes (p.fns.drop k) nx with | none=>none | some none=>some false | some (some next)=>some (next==(p.nodes.length:Int)&&decide (next<=800)))=some b) ?_ (by simpa using by have:=hp.fns.1;omega) ?_ ?_ ?_
   ·exact ⟨_,_,Wk.aC ak,_,rfl,rfl,Int.le_refl _,h⟩
   ·rintro k _ _ ⟨_,rfl,rfl,_⟩;exact dp
   ·clear h hf;rintro k _ _ hk ⟨nx,rfl,rfl,ox,h⟩
    have hk:k < p.fns.length:=by simpa using hk
    have hx:p.fns[k]?=some p.fns[k]:=by simp [hk]
    have hr:=vJ hx;have hl:=hp.fns.2 _ (br hx);rw [lT hk,iK] at h;generalize p.fns[k]=x at *
    cases he:qk p.nodes (fN p.nodes) nx.toNat 0 with
    | none=>exact za2
    | some e =>
    rw [he] at h;simp only at h;have qS:=ZC p hp.nodes.1 (fun n hn=>(hp.nodes.2 n hn).2) _ _ 0 _ G he;rw [Int.toNat_of_nonneg ox] at qS;have cZ:=fc x.name G
    by_cases I:x.body=nx
    ·have dx:(x.body != nx)=false:=by simpa using I
     cases hb:bs x.name with
     | false =>
      rw [hb] at cZ;rw [ab (.inr (.inl hb))] at h;cases h;exact zfF
     | true =>
      rw [hb] at cZ
      by_cases M:e < 0
      ·have sF:decide (e < 0)=true:=by simpa using M
       rw [ab (.inr (.inr M))] at h;cases h;exact zfF
      ·have sF:decide (e < 0)=false:=by simpa using M
       rw [F (by rw [hb];simp [I,M])] at h;refine D ?_;refine V [] qS ?_;refine V [] cZ ?_;refine GW.range (x.params.map fun s=>[GV.v (sv s)]).length (fun j fr Γ=>fr=[U,.loc 0 0,U,.v (ii nx),U,U,U,U,U,.loc 1 0,.v (ii e),U,U,U,U,U,U,U,U,U,U,U,U,U,U,U,U,U,U,U,U,U,U,U,U,U,U,U,U,U,U,U,U,U,U,U,U,U,.sl 3 (p.fns.map au),.v (ii ((p.fns.map au).length:Int)),.v (ii (k:Nat)),U,U,U,U,U,U,U,U,U,U,U,U,U,U,U,U,U,U,U,U,U,strs x.params,.v (ii ((x.params.map fun s=>[GV.v (sv s)]).length:Int)),.v (ii (j:Nat)),U,U,U,U,U,U,U,U,U,U,U,U,U,U,U,U,U,U,U,U,U,U,U,U,U,U,U,U,U,U]/\Γ=[.box 33 (ar p),.box 58 (au x)]/\((x.params.take j).all bs)=true) ?_ (by simpa using by omega) ?_ ?_ ?_
       ·exact lj
       ·exact jd
       ·rintro j _ _ hj ⟨rfl,rfl,hf⟩
        have hj:j < x.params.length:=by simpa using hj
        have rv:x.params[j]?=some x.params[j]:=by simp [hj]
        have KO:=LC rv;have iH:=hl.2.2 _ (br rv);generalize x.params[j]=y at *;have b8:=fc y G
        cases hb:bs y with
        | true =>
         rw [hb] at b8;refine D ?_;refine V [] b8 ?_;exact ⟨rfl,rfl,_,_,Wk.aC ak,rfl,rfl,vc rv hf hb⟩
        | false =>
         rw [hb] at b8;rw [ab (show da x.params=false from xa rv hb)] at h;cases h;refine D ?_;refine V [] b8 ?_;exact al
       ·rintro _ _ ⟨rfl,rfl,hf⟩;rw [jN zfL] at hf;rw [F (by rw [show da x.params=true from hf];decide)] at h
        cases hs:sub p.nodes (fN p.nodes) nx.toNat with
        | none=>rw [hs] at h;cases h
        | some t =>
        rw [hs] at h;simp only at h;have pA:=Gw p (fun n hn=>(hp.nodes.2 n hn).2) _ _ _ hs;rw [Int.toNat_of_nonneg ox] at pA;have ba:=Sy t ((Zd (fun n hn=>by have:=hp.nodes.2 n hn;omega) _).1 _ _ hs)
        by_cases h3:t.n.kind=14
        ·have lV:(t.n.kind != 14)=false:=by simpa using h3
         cases hb:dO t with
         | false =>
          rw [hb] at ba;rw [ab (.inr hb)] at h;cases h;refine D ?_;refine V [] pA ?_;refine V [] ba ?_;exact al
         | true =>
          rw [hb] at ba;rw [F (by rw [hb];simp [h3])] at h;refine D ?_;refine V [] pA ?_;refine V [] ba ?_;exact ⟨rfl,rfl,_,_,(Wk.cut (n:=1) (dr rfl) rfl).trans (Wk.aC ak),_,rfl,rfl,by omega,h⟩
        ·have lV:(t.n.kind != 14)=true:=by simpa using h3
         rw [ab (.inl h3)] at h;cases h;refine D ?_;refine V [] pA ?_;exact al
    ·have dx:(x.body != nx)=true:=by simpa using I
     rw [ab (.inl I)] at h;cases h;refine D ?_;refine V [] qS ?_;exact al
   ·clear h hf;rintro _ _ ⟨nx,rfl,rfl,ox,h⟩;rw [bV,List.drop_length,iK] at h;simp only at h;cases h
    cases I:(nx==(p.nodes.length:Int)) with
    | false =>
     have dx:(nx==((p.nodes.map ay).length:Int))=false:=by rw [bV];exact I
     exact ax
    | true =>
     have dx:(nx==((p.nodes.map ay).length:Int))=true:=by rw [bV];exact I
     exact ax
def oG (k:Int) (s:ae):Int:=if k=6 then (match levels.findIdx? (fun l=>l.contains s) with | some i=>(i:Int) | none => -1) else 9
theorem MN (t:T):GF prog 260 [.agg (cT t)] [] (.v (.int .i64 (oG t.n.kind t.n.s))) []:=by
 refine c8 func260 ntmps260 ?_
 by_cases h6:t.n.kind=6
 ·have h6':(t.n.kind != 6)=false:=by simpa using h6
  unfold oG;rw [ab h6];refine D ?_;refine V [] lp ?_;refine GW.range (levels.map fun l=>[strs l]).length (fun k fr Γ=>fr=[U,.loc 0 0,U,U,U,U,U,U,U,U,U,.sl 1 (levels.map fun l=>[strs l]),.v (ii ((levels.map fun l=>[strs l]).length:Int)),.v (ii (k:Nat)),U,U,U,U,U,U,U,U,U,U,U]/\Γ=[.box 65 (cT t)]/\((levels.take k).any fun l=>l.contains t.n.s)=false) ?_ aP ?_ ?_ ?_
  ·exact lj
  ·exact jd
  ·rintro k _ _ hk ⟨rfl,rfl,hf⟩
   have hk:k < levels.length:=by simpa using hk
   have hx:levels[k]?=some levels[k]:=by simp [hk]
   have hr:(levels.map fun l=>[strs l])[k]?=some [strs levels[k]]:=by simp [hk]
   have BI:levels[k].length<=1099511627776:=by
    have:∀ l∈levels,l.length<=1099511627776:=by decide
    exact this _ (List.getElem_mem hk)
   have BA:levels[k].contains t.n.s=true->levels.findIdx? (fun l=>l.contains t.n.s)=some k:=by
    intro hc;rw [List.findIdx?_eq_some_iff_getElem];refine ⟨hk,hc,fun j hj=>?_⟩;rw [List.any_eq_false] at hf;refine hf _ ?_;rw [List.mem_take_iff_getElem];exact ⟨j,by omega,rfl⟩
   generalize levels[k]=x at *;have hh:=jk x t.n.s BI
   cases hb:x.contains t.n.s with
   | true =>
    rw [hb] at hh;rw [BA hb];refine D ?_;refine V [] hh ?_;exact al
   | false =>
    exact zbt
  ·rintro _ _ ⟨rfl,rfl,hf⟩;rw [jN zfL] at hf
   have hn:levels.findIdx? (fun l=>l.contains t.n.s)=none:=by
    rw [List.findIdx?_eq_none_iff];intro x hx;rw [List.any_eq_false] at hf;simpa using hf x hx
   rw [hn];exact ax
 ·have h6':(t.n.kind != 6)=true:=by simpa using h6
  unfold oG;rw [F h6];refine D ?_;refine V [] lp ?_;exact al
open Go.Xp (Bd dk qQ)
theorem Va (n:Int):GF prog 285 [.v (ii n)] [] (.v (ii (n % 4294967296))) []:=by
 refine ah func285 ntmps285 ?_;exact al
theorem WM (n:Int):GF prog 275 [.v (ii n)] [] (.v (ii (Bd n))) []:=by
 unfold Bd
 have hb:0<=n % 4294967296/\n % 4294967296 < 4294967296:=by omega
 have hp:=Va n;generalize n % 4294967296=m at *;refine c8 func275 ntmps275 ?_
 by_cases h:m > 2147483647
 ·have h':decide ((2147483647:Int) < m)=true:=by simpa using h
  rw [ab h];refine D ?_;refine V [] hp ?_;exact al
 ·have h':decide ((2147483647:Int) < m)=false:=by simpa using h
  rw [F h];refine D ?_;refine V [] hp ?_;exact al
theorem Ak (k:Nat) (h:k<=57):[[GV.v (.int .u8 (k:Int))]]=[UInt8.ofNat k].map fun c=>[GV.v (.int .u8 (c.toNat:Int))]:=by
 have:(UInt8.ofNat k).toNat=k:=by simp;omega
 simp [this]
theorem Jy (n:Nat) (hn:n<=1099511627776):GF prog 276 [.v (ii (n:Int))] [] (.v (sv (dk n))) []:=by
 induction n using Nat.strongRecOn with
 | _ n ih =>
 unfold dk;refine c8 func276 ntmps276 ?_
 by_cases h:n < 10
 ·have h':decide ((n:Int) < 10)=true:=by simpa using by omega
  have hw:=Ak (48+n) G;rw [Int.natCast_add] at hw;rw [dif_pos h];refine D ?_;refine cx ?_;exact ax
 ·have h':decide ((n:Int) < 10)=false:=by simpa using by omega
  rw [dif_neg h];have hc:=ih (n / 10) G G;have hl:=qQ (n / 10);have hw:=Ak (48+n % 10) G;rw [Int.natCast_add] at hw;refine D ?_;refine aL (.q 0 (.q 1 (aE 3 4 (.f 2 (.a 7 (aE 8 3 .nil)) 7 (.q 8 (.a 2 (.q 9 (.q 10 .nil)))))))) ?_;refine ao ?_;refine GO.fork ?_ ?_
  ·refine aI [] hc ?_;refine zay ?_;exact ax
  ·refine zay ?_;refine aI [] hc ?_;exact ax
open Go.Xp (E S er aU wt fL sE eO bZ)
theorem fj {nd:Nd} {l l':List T} {k v:Int} {s:ae} (h:er (.mk nd l)=.mk ⟨k,0,v,s,[]⟩ l'):nd.kind=k/\nd.n=v/\nd.s=s/\aU l=l':=by
 rw [er] at h
 injection h with I M
 injection I with a b c d e
 exact ⟨a,c,d,M⟩
theorem yk {l:List T} {x:T} (h:aU l=[x]):∃ t,l=[t]/\er t=x:=by
 match l,h with
 | [t],h=>rw [aU,aU] at h;injection h with I;exact ⟨t,rfl,I⟩
 | [],h=>rw [aU] at h;cases h
 | t::u::r,h=>rw [aU,aU] at h;injection h with I M;cases M
theorem D8 {l:List T} {x y:T} (h:aU l=[x,y]):∃ t u,l=[t,u]/\er t=x/\er u=y:=by
 match l,h with
 | t::r,h =>
  rw [aU] at h;injection h with I M
  obtain ⟨u,rfl,h3⟩:=yk M;exact ⟨t,u,rfl,I,h3⟩
 | [],h=>rw [aU] at h;cases h
theorem aaH {l:List T} {x y z:T} (h:aU l=[x,y,z]):∃ t u w,l=[t,u,w]/\er t=x/\er u=y/\er w=z:=by
 match l,h with
 | t::r,h =>
  rw [aU] at h;injection h with I M
  obtain ⟨u,w,rfl,h3,h4⟩:=D8 M;exact ⟨t,u,w,rfl,I,h3,h4⟩
 | [],h=>rw [aU] at h;cases h
theorem Ts {a:E} (h:a.ok=true) {t:T} (ht:er t=a.tree):oG t.n.kind t.n.s=(a.lv:Int):=by
 obtain ⟨nd,l⟩:=t
 cases a with
 | bin s a b =>
  obtain ⟨I,_,M,_⟩:=fj ht;simp only [E.ok,aH] at h;have h9:=(Go.Xp.ry h.1.1).1;simp only [T.n,I,M,oG,ab,E.lv];unfold eO at h9 |-
  cases hf:levels.findIdx? (fun l=>l.contains s) with
  | none=>rw [hf] at h9;exact absurd h9 aP
  | some i=>rfl
 | num n=>exact zbH
 | name n=>exact zbH
 | at_ s a=>exact zbH
 | call s a=>exact zbH
 | un s a=>exact zbH
theorem tq {a:E} (h:a.ok=true) {t:T} (ht:er t=a.tree):GF prog 260 [.agg (cT t)] [] (.v (ii (a.lv:Int))) []:=by
 have:=MN t;rw [Ts h ht] at this;exact this
theorem EY (n:Int) (h:0<=n/\n<=2147483647):GF prog 261 [.v (ii n)] [] (.v (sv (dk n.toNat))) []:=by
 have hw:=WM n
 have qD:Bd n=n:=by unfold Bd;rw [show n % 4294967296=n by omega,F G]
 rw [qD] at hw;have hd:=Jy n.toNat G;rw [Int.toNat_of_nonneg h.1] at hd
 have h':decide (n < 0)=false:=by simpa using h.1
 refine ah func261 ntmps261 ?_;refine V [] hw ?_;refine V [] hd ?_;exact al
abbrev lim:Nat:=1000000000000
def tO (a:E):Prop:=∀ (t:T) (k:Nat),a.ok=true->er t=a.tree->wt a.tree<=lim->¬ a.lv < k->GF prog 227 [.agg (cT t),.v (ii (k:Int))] [] (.v (sv a.bB)) []
def qs (a:E):Prop:=∀ (t:T) (k:Nat),a.ok=true->er t=a.tree->wt a.tree<=lim->GF prog 227 [.agg (cT t),.v (ii (k:Int))] [] (.v (sv (sE a.lv k a.bB))) []
theorem tO.p {a:E} (C:tO a):qs a:=by
 intro t k ho ht hb;unfold sE
 by_cases h:a.lv < k
 ·rw [ab h]
  have h':decide ((a.lv:Int) < (k:Int))=true:=by simpa using h
  have hl:=(E.len a ho).1;have h0:=C t 0 ho ht hb G;have Ug:=hb;unfold lim at Ug;generalize a.bB=x at *;refine ah func227 ntmps227 ?_;refine V [] (tq ho ht) ?_;exact zdU
 ·rw [F h];exact C t k ho ht hb h
theorem P6 (n:Int):tO (.num n):=by
 intro t k ho ht hb h
 have h':decide (((E.num n).lv:Int) < (k:Int))=false:=by simpa using h
 have hg:=tq ho ht;obtain ⟨⟨kk,aa,vv,ss,ks⟩,l⟩:=t;obtain ⟨I,M,h3,hl⟩:=fj ht;simp only at I M h3;subst I M h3;simp only [E.ok,aH] at ho;have hn:=EY vv ⟨og ho.1,og ho.2⟩;rw [E.bB];simp only [cT,T.n,T.kids] at hg |-;refine ah func227 ntmps227 ?_;refine V [] hg ?_;refine V [] hn ?_;exact al
theorem MV (s:ae):tO (.name s):=by
 intro t k ho ht hb h
 have h':decide (((E.name s).lv:Int) < (k:Int))=false:=by simpa using h
 have hg:=tq ho ht;obtain ⟨⟨kk,aa,vv,ss,ks⟩,l⟩:=t;obtain ⟨I,M,h3,hl⟩:=fj ht;simp only at I M h3;subst I M h3;rw [E.bB];simp only [cT,T.n,T.kids] at hg |-;refine ah func227 ntmps227 ?_;exact zfh
theorem SK (s:ae) (a:E) (C:qs a):tO (.at_ s a):=by
 intro t k ho ht hb h
 have h':decide (((E.at_ s a).lv:Int) < (k:Int))=false:=by simpa using h
 have hg:=tq ho ht;obtain ⟨⟨kk,aa,vv,ss,ks⟩,l⟩:=t;obtain ⟨I,M,h3,hl⟩:=fj ht;simp only at I M h3;subst I M h3;obtain ⟨x,rfl,hx⟩:=yk hl;simp only [E.ok,aH] at ho;rw [E.tree,wt] at hb;simp only [fL,lim] at hb;have hc:=C x 0 ho.2 hx zfT;unfold sE at hc;rw [F G] at hc;have hle:=(E.len a ho.2).1;have hr:(aQ [x])[0]?=some (cT x):=db rfl;rw [E.bB];generalize a.bB=y at *;simp only [cT,T.n,T.kids] at hg |-;refine ah func227 ntmps227 ?_;refine V [] hg ?_;refine aL (aE 0 8 (.a 8 (aE 9 3 .nil))) ?_;refine ao ?_;refine aI [] hc ?_;exact ax
theorem SL (s:ae) (a:E) (C:qs a):tO (.un s a):=by
 intro t k ho ht hb h
 have h':decide (((E.un s a).lv:Int) < (k:Int))=false:=by simpa using h
 have hg:=tq ho ht;obtain ⟨⟨kk,aa,vv,ss,ks⟩,l⟩:=t;obtain ⟨I,M,h3,hl⟩:=fj ht;simp only at I M h3;subst I M h3;obtain ⟨x,rfl,hx⟩:=yk hl;simp only [E.ok,aH] at ho;rw [E.tree,wt] at hb;simp only [fL,lim] at hb;have hc:=C x 9 ho.2 hx zfT;have hle:=(E.len a ho.2).1;have Ck:=Go.Xp.uR a.lv 9 a.bB;have hr:(aQ [x])[0]?=some (cT x):=db rfl;rw [E.bB];generalize sE a.lv 9 a.bB=y at *;simp only [cT,T.n,T.kids] at hg |-;refine ah func227 ntmps227 ?_;refine V [] hg ?_;refine aL (aE 0 8 (.a 8 (.q 9 (.a 10 (.q 11 (.q 12 .nil)))))) ?_;refine ao ?_;refine aI [] lp ?_;refine aI [] hc ?_;exact ax
theorem P5 (s:ae) (a b:E) (Ca:qs a) (Cb:qs b):tO (.bin s a b):=by
 intro t k ho ht hb h
 have h':decide (((E.bin s a b).lv:Int) < (k:Int))=false:=by simpa using h
 have hg:=tq ho ht;obtain ⟨⟨kk,aa,vv,ss,ks⟩,l⟩:=t;obtain ⟨I,M,h3,hl⟩:=fj ht;simp only at I M h3;subst I M h3;obtain ⟨x,y,rfl,hx,hy⟩:=D8 hl;simp only [E.ok,aH] at ho;rw [E.tree,wt] at hb;simp only [fL,lim] at hb;have XM:=Ca x (eO ss) ho.1.2 hx zfT;have Bx:=Cb y (eO ss+1) ho.2 hy zfT;have KJ:=(Go.Xp.ry ho.1.1).1;have hle:=(E.len a ho.1.2).1;have Ck:=Go.Xp.uR a.lv (eO ss) a.bB;have abx:=(E.len b ho.2).1;have acn:=Go.Xp.uR b.lv (eO ss+1) b.bB;have hr:(aQ [x,y])[0]?=some (cT x):=db rfl;have eh:(aQ [x,y])[1]?=some (cT y):=db rfl;rw [E.bB];simp only [E.lv] at hg h';generalize sE a.lv (eO ss) a.bB=u at *;generalize sE b.lv (eO ss+1) b.bB=w at *;simp only [cT,T.n,T.kids] at hg |-;refine ah func227 ntmps227 ?_;refine V [] hg ?_;refine V [] hg ?_;refine aL (aE 0 5 (aE 7 3 (aE 12 6 (.a 5 (.q 6 (.q 10 (.q 11 (.a 18 (.q 19 (.q 20 .nil)))))))))) ?_;exact zfn
open Go.Xp (Du yw)
def Mc (b:Bool) (a:E):Prop:=∀ t,er t=a.tree->GF prog 184 [.agg (cT t),.v (.bool b)] [] (.v (sv (a.out b))) []
theorem OC:∀ {ts:List T} {es:List E} (h:aU ts=E.trees es),ts.length=es.length/\∀ (k:Nat) t a,ts[k]?=some t->es[k]?=some a->er t=a.tree
 | [],[],_=>⟨rfl,fun k t a h=>by simp at h⟩
 | [],a::l,h=>by rw [aU,E.trees] at h;cases h
 | t::r,[],h=>by rw [aU,E.trees] at h;cases h
 | t::r,a::l,h=>by
  rw [aU,E.trees] at h
  injection h with I M
  obtain ⟨h3,h4⟩:=OC M;refine ⟨by simp [h3],fun k t' a' ht ha=>?_⟩
  cases k with
  | zero=>cases ht;cases ha;exact I
  | succ k=>exact zfG
theorem FI (b:Bool) (es:List E) (C:∀ a∈es,Mc b a) (ts:List T) (vy:aU ts=E.trees es) (hb:(bZ (es.map (E.out b))).length<=lim) (hn:es.length<=lim) :
  GF prog 262 [.sl 6 (aQ ts),.v (.bool b)] [] (.v (sv (bZ (es.map (E.out b))))) []:=by
 obtain ⟨hlen,wj⟩:=OC vy;unfold lim at hb hn;refine ah func262 ntmps262 ?_;refine GW.range (aQ ts).length (fun k fr Γ=>∃ y,fr=[U,.v (.bool b),U,U,U,.v (sv y),U,U,.sl 6 (aQ ts),.v (ii ((aQ ts).length:Int)),.v (ii (k:Nat)),U,U,U,U,U,U,U,U,U,U,U,U,U,U,U]/\Γ=[]/\y=bZ ((es.map (E.out b)).take k)) ?_ zgE ?_ ?_ ?_
 ·exact ⟨_,_,Wk.aC ak,[],rfl,rfl,by simp [bZ]⟩
 ·rintro k _ _ ⟨y,rfl,rfl,_⟩;exact dp
 ·rintro k _ _ hk ⟨y,rfl,rfl,hy⟩
  have hk:k < es.length:=by rw [aX,hlen] at hk;exact hk
  have zc:k < ts.length:=by omega
  have hx:es[k]?=some es[k]:=by simp [hk]
  have ht:ts[k]?=some ts[k]:=by simp [zc]
  have he:=wj k _ _ ht hx;have hr:=db ht;have hc:=C _ (br hx) _ he;have qz:=yw (es.map (E.out b)) (k+1);have abq:=yw (es.map (E.out b)) k
  have jQ:(es.map (E.out b)).take (k+1)=(es.map (E.out b)).take k++[es[k].out b]:=by
   rw [bS,aS,hx];rfl
  rw [jQ] at qz;generalize ts[k]=t at *;generalize es[k]=a at *;generalize a.out b=x at *
  by_cases h0:k=0
  ·subst h0
   have vl:decide ((0:Int) < ((0:Nat):Int))=false:=by decide
   have hj:bZ ((es.map (E.out b)).take 0++[x])=[]++x:=by simp [bZ]
   have Um:bZ ((es.map (E.out b)).take 0)=[]:=by simp [bZ]
   rw [Um] at hy;subst hy;rw [hj] at qz
   have qz:x.length<=(bZ (es.map (E.out b))).length:=by simpa using qz
   exact zcO
  ·have vl:decide ((0:Int) < (k:Int))=true:=by simpa using by omega
   have cn:(es.map (E.out b)).take k≠[]:=by
    intro h;rw [List.take_eq_nil_iff] at h
    rcases h with h | h
    ·exact h0 h
    ·rw [List.map_eq_nil_iff] at h;subst h;simp at hk
   have hj:=Du cn x;rw [hj] at qz;rw [<-hy] at qz hj abq;simp only [aM,length_cons,length_nil] at qz;exact zcO
 ·rintro _ _ ⟨y,rfl,rfl,hy⟩;have:(es.map (E.out b)).take (aQ ts).length=es.map (E.out b):=jN (by rw [aX,hlen];simp);rw [this] at hy;subst hy;exact ax
theorem qs.out {a:E} (C:qs a) (ho:a.ok=true) (hb:wt a.tree<=lim):Mc true a:=by
 intro t ht;have h0:=C t 0 ho ht hb;unfold sE at h0;rw [F G] at h0;show GF _ _ _ _ (.v (sv a.bB)) _;refine ah func184 ntmps184 ?_;exact zdU
theorem ET:∀ l:List E,l.length<=fL (E.trees l)
 | []=>aO _
 | a::l=>by
  have:=ET l;rw [E.trees,fL,length_cons]
  have:1<=wt a.tree:=by cases a <;> (rw [E.tree,wt];omega)
  omega
theorem EU:∀ {l:List E} {a:E},a∈l->wt a.tree<=fL (E.trees l)
 | [],_,h=>by cases h
 | b::l,a,h=>by
  rw [E.trees,fL]
  rcases dw h with rfl | h
  ·omega
  ·have:=EU h;omega
theorem EC:∀ {l:List E} {a:E},E.df l=true->a∈l->a.ok=true
 | [],_,_,h=>by cases h
 | b::l,a,ho,h=>by
  simp only [E.df,aH] at ho
  rcases dw h with rfl | h
  ·exact ho.1
  ·exact EC ho.2 h
theorem MU (s:ae) (es:List E) (C:∀ a∈es,qs a):tO (.call s es):=by
 intro t k ho ht hb h
 have h':decide (((E.call s es).lv:Int) < (k:Int))=false:=by simpa using h
 have hg:=tq ho ht;obtain ⟨⟨kk,aa,vv,ss,ks⟩,l⟩:=t;obtain ⟨I,M,h3,hl⟩:=fj ht;simp only at I M h3;subst I M h3;simp only [E.ok,aH] at ho;rw [E.tree,wt] at hb;have hle:=(E.lens es ho.2).1;have hn:=ET es
 have HD:E.dz es=es.map (E.out true):=by rw [E.TB];rfl
 have hj:=FI true es (fun a ha=>(C a ha).out (EC ho.2 ha) (by have:=EU ha;omega)) l hl (by rw [<-HD];omega) G;rw [<-HD] at hj;unfold lim at hb;simp only at hb;rw [E.bB];generalize bZ (E.dz es)=y at *;simp only [cT,T.n,T.kids] at hg |-;refine ah func227 ntmps227 ?_;refine V [] hg ?_;exact zdF
mutual
theorem xC:∀ a:E,qs a
 | .num n=>(P6 n).p
 | .name s=>(MV s).p
 | .at_ s a=>(SK s a (xC a)).p
 | .call s l=>(MU s l (K8 l)).p
 | .un s a=>(SL s a (xC a)).p
 | .bin s a b=>(P5 s a b (xC a) (xC b)).p
theorem K8:∀ l:List E,∀ a∈l,qs a
 | []=>fun a h=>by cases h
 | b::l=>fun a h=>by
  rcases dw h with h | h
  ·rw [h];exact xC b
  ·exact K8 l a h
end
def nU (a:E):Prop:=∀ (t:T),a.ok=true->er t=a.tree->wt a.tree<=lim->GF prog 228 [.agg (cT t)] [] (.v (sv a.full)) []
theorem nU.out {a:E} (C:nU a) (ho:a.ok=true) (hb:wt a.tree<=lim):Mc false a:=by
 intro t ht;have h0:=C t ho ht hb;show GF _ _ _ _ (.v (sv a.full)) _;refine ah func184 ntmps184 ?_;exact zdU
theorem R4 (n:Int):nU (.num n):=by
 intro t ho ht hb;obtain ⟨⟨kk,aa,vv,ss,ks⟩,l⟩:=t;obtain ⟨I,M,h3,hl⟩:=fj ht;simp only at I M h3;subst I M h3;simp only [E.ok,aH] at ho;have hn:=EY vv ⟨og ho.1,og ho.2⟩;rw [E.full];simp only [cT,T.n,T.kids];refine ah func228 ntmps228 ?_;refine V [] hn ?_;exact al
theorem OX (s:ae):nU (.name s):=by
 intro t ho ht hb;obtain ⟨⟨kk,aa,vv,ss,ks⟩,l⟩:=t;obtain ⟨I,M,h3,hl⟩:=fj ht;simp only at I M h3;subst I M h3;rw [E.full];simp only [cT,T.n,T.kids];refine ah func228 ntmps228 ?_;exact al
theorem VA (s:ae) (a:E) (C:nU a):nU (.at_ s a):=by
 intro t ho ht hb;exact zaj
theorem OW (s:ae) (es:List E) (C:∀ a∈es,nU a):nU (.call s es):=by
 intro t ho ht hb;obtain ⟨⟨kk,aa,vv,ss,ks⟩,l⟩:=t;obtain ⟨I,M,h3,hl⟩:=fj ht;simp only at I M h3;subst I M h3;simp only [E.ok,aH] at ho;rw [E.tree,wt] at hb;have hle:=(E.lens es ho.2).2;have hn:=ET es
 have HD:E.uJ es=es.map (E.out false):=by rw [E.OY];rfl
 have hj:=FI false es (fun a ha=>(C a ha).out (EC ho.2 ha) (by have:=EU ha;omega)) l hl (by rw [<-HD];omega) G;rw [<-HD] at hj;unfold lim at hb;simp only at hb;rw [E.full];generalize bZ (E.uJ es)=y at *;simp only [cT,T.n,T.kids] at |-;refine ah func228 ntmps228 ?_;exact zdF
theorem VB (s:ae) (a:E) (C:nU a):nU (.un s a):=by
 intro t ho ht hb;exact zaj
theorem R3 (s:ae) (a b:E) (Ca:nU a) (Cb:nU b):nU (.bin s a b):=by
 intro t ho ht hb;obtain ⟨⟨kk,aa,vv,ss,ks⟩,l⟩:=t;obtain ⟨I,M,h3,hl⟩:=fj ht;simp only at I M h3;subst I M h3;obtain ⟨x,y,rfl,hx,hy⟩:=D8 hl;simp only [E.ok,aH] at ho;rw [E.tree,wt] at hb;simp only [fL,lim] at hb;have XM:=Ca x ho.1.2 hx zfT;have Bx:=Cb y ho.2 hy zfT;have hle:=(E.len a ho.1.2).2;have abx:=(E.len b ho.2).2;have hr:(aQ [x,y])[0]?=some (cT x):=db rfl;have eh:(aQ [x,y])[1]?=some (cT y):=db rfl;rw [E.full];generalize a.full=u at *;generalize b.full=w at *;simp only [cT,T.n,T.kids] at |-;refine ah func228 ntmps228 ?_;refine aL (aE 0 4 (aE 7 3 (aE 12 4 (.a 4 (.q 5 (.q 6 (.q 10 (.q 11 (.a 16 (aE 17 3 .nil)))))))))) ?_;exact zfn
mutual
theorem AQ:∀ a:E,nU a
 | .num n=>R4 n
 | .name s=>OX s
 | .at_ s a=>VA s a (AQ a)
 | .call s l=>OW s l (OV l)
 | .un s a=>VB s a (AQ a)
 | .bin s a b=>R3 s a b (AQ a) (AQ b)
theorem OV:∀ l:List E,∀ a∈l,nU a
 | []=>fun a h=>by cases h
 | b::l=>fun a h=>by
  rcases dw h with h | h
  ·rw [h];exact AQ b
  ·exact OV l a h
end
theorem sd (b:Bool) {a:E} (ho:a.ok=true) (hb:wt a.tree<=lim):Mc b a:=by
 cases b with
 | true=>exact (xC a).out ho hb
 | false=>exact (AQ a).out ho hb
theorem kD (b:Bool) (a:E) (ho:a.ok=true):(a.out b).length+4<=wt a.tree:=by
 have:=E.len a ho
 cases b with
 | true=>exact this.1
 | false=>exact this.2
open Go.Xp (bY fX)
theorem LS (x:E->Go.Xp.ae):∀ (l:List S) (acc:Go.Xp.ae),acc.length<=(S.dz x acc l).length
 | [],acc=>by rw [S.dz];omega
 | a::l,acc=>by
  rw [S.dz];have:=LS x l (acc++a.bB x++[32]);simp only [aM,length_cons,length_nil] at this;omega
def oY (b:Bool) (s:S):Prop:=∀ t,s.ok=true->er t=s.tree->wt s.tree<=lim->GF prog 151 [.agg (cT t),.v (.bool b)] [] (.v (sv (s.bB (E.out b)))) []
def w9 (b:Bool) (l:List S):Prop:=∀ t,S.df l=true->er t=bY l->wt (bY l)<=lim->GF prog 151 [.agg (cT t),.v (.bool b)] [] (.v (sv (fX (E.out b) l))) []
theorem LD:∀ {ts:List T} {es:List S} (h:aU ts=S.trees es),ts.length=es.length/\∀ (k:Nat) t a,ts[k]?=some t->es[k]?=some a->er t=a.tree
 | [],[],_=>⟨rfl,fun k t a h=>by simp at h⟩
 | [],a::l,h=>by rw [aU,S.trees] at h;cases h
 | t::r,[],h=>by rw [aU,S.trees] at h;cases h
 | t::r,a::l,h=>by
  rw [aU,S.trees] at h
  injection h with I M
  obtain ⟨h3,h4⟩:=LD M;refine ⟨by simp [h3],fun k t' a' ht ha=>?_⟩
  cases k with
  | zero=>cases ht;cases ha;exact I
  | succ k=>exact zfG
theorem I0:∀ {l:List S} {a:S},a∈l->wt a.tree<=fL (S.trees l)
 | [],_,h=>by cases h
 | b::l,a,h=>by
  rw [S.trees,fL]
  rcases dw h with rfl | h
  ·omega
  ·have:=I0 h;omega
theorem IZ:∀ l:List S,l.length<=fL (S.trees l)
 | []=>aO _
 | a::l=>by
  have:=IZ l;rw [S.trees,fL,length_cons]
  have:1<=wt a.tree:=by cases a <;> (rw [S.tree,wt];omega)
  omega
theorem IK:∀ {l:List S} {a:S},S.df l=true->a∈l->a.ok=true
 | [],_,_,h=>by cases h
 | b::l,a,ho,h=>by
  simp only [S.df,aH] at ho
  rcases dw h with rfl | h
  ·exact ho.1
  ·exact IK ho.2 h
theorem Rk (b:Bool) (s:Go.Xp.ae) (a:E):oY b (.var s a):=by
 intro t ho ht hb;obtain ⟨⟨kk,aa,vv,ss,ks⟩,l⟩:=t;obtain ⟨I,M,h3,hl⟩:=fj ht;simp only at I M h3;subst I M h3;obtain ⟨x0,rfl,ru⟩:=yk hl;simp only [S.ok,aH] at ho;rw [S.tree,wt] at hb;simp only [fL,lim] at hb;have rU:=sd b (a:=a) ho.2 zfT x0 ru;have xq:=kD b a ho.2;have tW:(aQ [x0])[0]?=some (cT x0):=db rfl;rw [S.bB];generalize a.out b=y0 at *;simp only [cT,T.n,T.kids];refine ah func151 ntmps151 ?_;refine aL (aE 0 10 (.a 10 (aE 11 3 .nil))) ?_;refine ao ?_;refine aI [] rU ?_;exact ax
theorem Rj (b:Bool) (s:Go.Xp.ae) (a:E):oY b (.set s a):=by
 intro t ho ht hb;obtain ⟨⟨kk,aa,vv,ss,ks⟩,l⟩:=t;obtain ⟨I,M,h3,hl⟩:=fj ht;simp only at I M h3;subst I M h3;obtain ⟨x0,rfl,ru⟩:=yk hl;simp only [S.ok,aH] at ho;rw [S.tree,wt] at hb;simp only [fL,lim] at hb;have rU:=sd b (a:=a) ho.2 zfT x0 ru;have xq:=kD b a ho.2;have tW:(aQ [x0])[0]?=some (cT x0):=db rfl;rw [S.bB];generalize a.out b=y0 at *;simp only [cT,T.n,T.kids];refine ah func151 ntmps151 ?_;refine aL (aE 0 9 (.a 9 (aE 10 3 .nil))) ?_;refine ao ?_;refine aI [] rU ?_;exact ax
theorem Rh (b:Bool) (s:Go.Xp.ae) (a:E) (c:E):oY b (.put s a c):=by
 intro t ho ht hb;obtain ⟨⟨kk,aa,vv,ss,ks⟩,l⟩:=t;obtain ⟨I,M,h3,hl⟩:=fj ht;simp only at I M h3;subst I M h3;obtain ⟨x0,x1,rfl,ru,xy⟩:=D8 hl;simp only [S.ok,aH] at ho;rw [S.tree,wt] at hb;simp only [fL,lim] at hb;have rU:=sd b (a:=a) ho.2.1 zfT x0 ru;have xq:=kD b a ho.2.1;have tW:(aQ [x0,x1])[0]?=some (cT x0):=db rfl;have vm:=sd b (a:=c) ho.2.2 zfT x1 xy;have fK:=kD b c ho.2.2;have jj:(aQ [x0,x1])[1]?=some (cT x1):=db rfl;rw [S.bB];generalize a.out b=y0 at *;generalize c.out b=y1 at *;simp only [cT,T.n,T.kids];refine ah func151 ntmps151 ?_;refine aL (aE 0 9 (aE 12 5 (.a 9 (.q 10 (.q 11 (.a 17 (aE 18 3 .nil))))))) ?_;refine ao ?_;refine aI [] rU ?_;refine aI [] vm ?_;exact ax
theorem Re (b:Bool) (c:E) (p:List S) (Cp:w9 b p):oY b (.if1 c p):=by
 intro t ho ht hb;obtain ⟨⟨kk,aa,vv,ss,ks⟩,l⟩:=t;obtain ⟨I,M,h3,hl⟩:=fj ht;simp only at I M h3;subst I M h3;obtain ⟨x0,x1,rfl,ru,xy⟩:=D8 hl;simp only [S.ok,aH] at ho;rw [S.tree,wt] at hb;simp only [fL,lim] at hb;have rU:=sd b (a:=c) ho.1 zfT x0 ru;have xq:=kD b c ho.1;have tW:(aQ [x0,x1])[0]?=some (cT x0):=db rfl;have vm:=Cp x1 ho.2 xy zgq;have fK:=Go.Xp.uQ (E.out b) (kD b) ho.2;rw [bY] at fK;have jj:(aQ [x0,x1])[1]?=some (cT x1):=db rfl;rw [S.bB];generalize c.out b=y0 at *
 change GF _ _ _ _ (.v (sv _)) _ at vm
 exact zaL
theorem Rf (b:Bool) (c:E) (p:List S) (q:List S) (Cp:w9 b p) (Cq:w9 b q):oY b (.if2 c p q):=by
 intro t ho ht hb;obtain ⟨⟨kk,aa,vv,ss,ks⟩,l⟩:=t;obtain ⟨I,M,h3,hl⟩:=fj ht;simp only at I M h3;subst I M h3;obtain ⟨x0,x1,x2,rfl,ru,xy,KR⟩:=aaH hl;simp only [S.ok,aH] at ho;rw [S.tree,wt] at hb;simp only [fL,lim] at hb;have rU:=sd b (a:=c) ho.1 zfT x0 ru;have xq:=kD b c ho.1;have tW:(aQ [x0,x1,x2])[0]?=some (cT x0):=db rfl;have vm:=Cp x1 ho.2.1 xy zgq;have fK:=Go.Xp.uQ (E.out b) (kD b) ho.2.1;rw [bY] at fK;have jj:(aQ [x0,x1,x2])[1]?=some (cT x1):=db rfl;have lC:=Cq x2 ho.2.2 KR zgq;have gM:=Go.Xp.uQ (E.out b) (kD b) ho.2.2;rw [bY] at gM;have eh:(aQ [x0,x1,x2])[2]?=some (cT x2):=db rfl;rw [S.bB];generalize c.out b=y0 at *
 change GF _ _ _ _ (.v (sv _)) _ at vm
 unfold fX at vm fK;generalize S.dz (E.out b) [123,32] p++[125]=y1 at *
 change GF _ _ _ _ (.v (sv _)) _ at lC
 unfold fX at lC gM;generalize S.dz (E.out b) [123,32] q++[125]=y2 at *;simp only [cT,T.n,T.kids];refine ah func151 ntmps151 ?_;refine aL (aE 0 5 (aE 8 5 (.a 5 (.q 6 (.q 7 (.a 13 (.q 14 (.q 15 .nil)))))))) ?_;refine ao ?_;refine aI [] rU ?_;refine aI [] vm ?_;refine D ?_;refine V [] lC ?_;exact al
theorem JY (b:Bool) (c:E) (p:List S) (Cp:w9 b p):oY b (.while_ c p):=by
 intro t ho ht hb;obtain ⟨⟨kk,aa,vv,ss,ks⟩,l⟩:=t;obtain ⟨I,M,h3,hl⟩:=fj ht;simp only at I M h3;subst I M h3;obtain ⟨x0,x1,rfl,ru,xy⟩:=D8 hl;simp only [S.ok,aH] at ho;rw [S.tree,wt] at hb;simp only [fL,lim] at hb;have rU:=sd b (a:=c) ho.1 zfT x0 ru;have xq:=kD b c ho.1;have tW:(aQ [x0,x1])[0]?=some (cT x0):=db rfl;have vm:=Cp x1 ho.2 xy zgq;have fK:=Go.Xp.uQ (E.out b) (kD b) ho.2;rw [bY] at fK;have jj:(aQ [x0,x1])[1]?=some (cT x1):=db rfl;rw [S.bB];generalize c.out b=y0 at *
 change GF _ _ _ _ (.v (sv _)) _ at vm
 exact zaL
theorem Ri (b:Bool) (a:E):oY b (.ret a):=by
 intro t ho ht hb;exact zan
theorem TL (b:Bool) (a:E):oY b (.do_ a):=by
 intro t ho ht hb;exact zan
theorem ui (b:Bool) (es:List S) (C:∀ a∈es,oY b a):w9 b es:=by
 intro t ho ht hb;obtain ⟨⟨kk,aa,vv,ss,ks⟩,l⟩:=t;obtain ⟨I,M,h3,hl⟩:=fj ht;simp only at I M h3;subst I M h3;obtain ⟨hlen,wj⟩:=LD hl;have ln:=Go.Xp.uQ (E.out b) (kD b) ho;rw [bY,wt] at hb;rw [bY,wt] at ln;have hn:=IZ es;unfold fX at ln |-;unfold lim at hb;simp only [aM,length_cons,length_nil] at hb ln;simp only [cT,T.n,T.kids];refine ah func151 ntmps151 ?_;refine GW.range (aQ l).length (fun k fr Γ=>∃ y,fr=[U,.v (.bool b),.loc 0 0,U,U,U,.v (sv y),U,U,U,U,U,U,U,U,U,U,U,U,U,U,U,U,U,U,U,U,U,U,U,U,U,U,U,U,U,U,U,U,U,U,U,U,U,U,U,U,U,U,U,U,U,U,U,U,U,U,U,U,U,U,U,U,U,U,U,U,U,U,U,U,U,U,U,U,U,U,U,U,U,U,U,U,U,U,U,U,U,U,U,U,U,U,U,U,U,U,U,U,U,U,U,U,U,U,U,U,U,U,U,U,U,U,U,U,U,U,U,U,U,U,U,U,U,U,U,U,U,U,U,U,.sl 6 (aQ l),.v (ii ((aQ l).length:Int)),.v (ii (k:Nat)),U,U,U,U,U,U,U,U,U,U,U,U]/\Γ=[.box 65 [.v (ii 14),.v (ii aa),.v (ii 0),.v (sv []),ints ks,.sl 6 (aQ l)]]/\S.dz (E.out b) y (es.drop k)=S.dz (E.out b) [123,32] es) ?_ zgE ?_ ?_ ?_
 ·exact ⟨_,_,Wk.aC ak,_,rfl,rfl,rfl⟩
 ·rintro k _ _ ⟨y,rfl,rfl,_⟩;exact dp
 ·rintro k _ _ hk ⟨y,rfl,rfl,hy⟩
  have hk:k < es.length:=by rw [aX,hlen] at hk;exact hk
  have zc:k < l.length:=by omega
  have hx:es[k]?=some es[k]:=by simp [hk]
  have jQ:l[k]?=some l[k]:=by simp [zc]
  have hr:=db jQ;rw [lT hk,S.dz] at hy;have hm:=br hx;have hc:=C _ hm _ (IK ho hm) (wj k _ _ jQ hx) (by have:=I0 hm;unfold lim;omega);generalize l[k]=t at *;generalize hgx:es[k].bB (E.out b)=x at *;have ny:=LS (E.out b) (es.drop (k+1)) (y++x++[32]);rw [hy] at ny;simp only [aM,length_cons,length_nil] at ny;refine zaR ?_;exact ⟨rfl,rfl,_,_,(Wk.cut (n:=1) (dr rfl) rfl).trans (Wk.aC ak),_,rfl,rfl,hy⟩
 ·rintro _ _ ⟨y,rfl,rfl,hy⟩;rw [List.drop_of_length_le (by rw [aX,hlen];exact aD _),S.dz] at hy;subst hy;exact ax
mutual
theorem Zo (b:Bool):∀ s:S,oY b s
 | .set s a=>Rj b s a
 | .put s a c=>Rh b s a c
 | .if1 c p=>Re b c p (ui b p (u5 b p))
 | .if2 c p q=>Rf b c p q (ui b p (u5 b p)) (ui b q (u5 b q))
 | .while_ c p=>JY b c p (ui b p (u5 b p))
 | .ret a=>Ri b a
 | .do_ a=>TL b a
 | .var s a=>Rk b s a
theorem u5 (b:Bool):∀ l:List S,∀ a∈l,oY b a
 | []=>fun a h=>by cases h
 | c::l=>fun a h=>by
  rcases dw h with h | h
  ·rw [h];exact Zo b c
  ·exact u5 b l a h
end
theorem Zn (b:Bool) (l:List S):w9 b l:=ui b l (u5 b l)
open Go.Xp (fA)
theorem PW (p:Src) (hp:DL p) (ls:List (List S)) (hb:Gy p ls):GF prog 105 [.agg (ar p)] [] (.v (.bool (ls.all fun l=>fA l 1))) []:=by
 refine ah func105 ntmps105 ?_;refine GW.range (p.fns.map au).length (fun k fr Γ=>fr=[U,.loc 0 0,U,U,U,U,U,U,.sl 3 (p.fns.map au),.v (ii ((p.fns.map au).length:Int)),.v (ii (k:Nat)),U,U,U,U,U,U,U,U,U,U,U,U,U,U,U,U,U,U,U,U,U,U,U,U,U,U,U,U,U,U,U,U,U,U]/\Γ=[.box 33 (ar p)]/\((ls.take k).all fun l=>fA l 1)=true) ?_ (by simpa using by have:=hp.fns.1;omega) ?_ ?_ ?_
 ·exact lj
 ·exact jd
 ·rintro k _ _ hk ⟨rfl,rfl,hf⟩
  have hk:k < p.fns.length:=by simpa using hk
  have fB:k < ls.length:=by rw [hb.len];exact hk
  have hx:p.fns[k]?=some p.fns[k]:=by simp [hk]
  have BI:ls[k]?=some ls[k]:=by simp [fB]
  have hr:=vJ hx;obtain ⟨h0,ho,hw,t,pA,her⟩:=hb.at_ k _ _ hx BI;have hs:=Gw p (fun n hn=>(hp.nodes.2 n hn).2) _ _ _ pA;rw [Int.toNat_of_nonneg h0] at hs;have HS:=Zn true ls[k] t ho her zfT;obtain ⟨ts,t2,q,f,I,M,h3,h4,h5,h6,h7⟩:=Vd ho hw;have jQ:=PY _ ts G I;have hmp:RS.ok ⟨ts,0,(fX E.bB ls[k]).length,0,0⟩:=⟨aO _,by simp only;omega⟩;have dY:=(sds f).block 1 _ t2 q hmp G h5
  have my:(E.out true)=E.bB:=by funext a;rfl
  rw [my] at HS;generalize fX E.bB ls[k]=tx at *;generalize wY:fA ls[k] 1=fit at *;generalize p.fns[k]=x at *
  rcases h7 with ⟨h7,h8,rfl⟩ | ⟨h7,rfl⟩
  ·have vm:(q.code != 0)=false:=by simpa using h7
   have lC:((q.i:Int) != ((q.l.map dP).length:Int))=false:=by rw [bV,h6];simp [h8]
   refine zeb ?_;refine bo ?_;exact ⟨rfl,rfl,_,_,(Wk.cut (n:=1) (dr rfl) rfl).trans (Wk.aC ak),rfl,rfl,vc BI hf wY⟩
  ·have vm:(q.code != 0)=true:=by simpa using h7
   have ba:(ls.all fun l=>fA l 1)=false:=xa BI wY;rw [ba];refine zeb ?_;exact zcD
 ·rintro _ _ ⟨rfl,rfl,hf⟩;rw [jN (by rw [bV,hb.len];exact aD _)] at hf;rw [hf];exact ax
theorem NO (p:Src) (hp:DL p) (h:p8 p=some false):GF prog 58 [.agg (ar p)] [] (.v (.bool false)) []:=by
 have hs:=Dx p hp false h;refine ah func58 ntmps58 ?_;refine V [] hs ?_;exact al
theorem NR (p:Src) (hp:DL p) (h:p8 p=some true) (ls:List (List S)) (hb:Gy p ls):GF prog 58 [.agg (ar p)] [] (.v (.bool (ls.all fun l=>fA l 1))) []:=by
 have hs:=Dx p hp true h;have hf:=PW p hp ls hb;generalize (ls.all fun l=>fA l 1)=b at *;refine ah func58 ntmps58 ?_;refine V [] hs ?_;refine V [] hf ?_;exact al
open Go.Im
theorem Wn {p:Src} (hw:eo p<=1048576):DL p:=by
 obtain ⟨⟨a1,a2⟩,⟨b1,b2⟩,⟨c1,c2⟩,⟨d1,d2⟩⟩:=jD p;exact ⟨⟨by omega,fun s hs=>by have:=a2 s hs;omega⟩,⟨by omega,fun s hs=>by have:=b2 s hs;omega⟩,⟨by omega,fun f hf=>by obtain ⟨e1,e2,e3⟩:=c2 f hf;exact ⟨by omega,by omega,fun s hs=>by have:=e3 s hs;omega⟩⟩,⟨by omega,fun n hn=>by obtain ⟨e1,e2⟩:=d2 n hn;exact ⟨by omega,by omega⟩⟩⟩
theorem NP (p:Src) (hw:eo p<=1048576):GF prog 58 [.agg (ar p)] [] (.v (.bool (fI p))) []:=by
 have gO:=Wn hw;obtain ⟨b,hb⟩:=Ns p
 cases b with
 | false=>rw [aaL hb];exact NO p gO hb
 | true =>
  obtain ⟨l,hl⟩:=Wp hb;obtain ⟨ls,hf⟩:=hl.Gm;rw [aaM hl hf];exact NR p gO hb ls (N9 hl hf hw)
end Go.Xg
