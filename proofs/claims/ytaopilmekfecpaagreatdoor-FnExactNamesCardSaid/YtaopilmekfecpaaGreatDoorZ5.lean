/- Part 5 of proofs that are told in their last texts. -/
import Derived.Test.YtaopilmekfecpaaGreatDoorZ4
import Derived.IntWalk
import Derived.Laws.IdiomStrings
import Derived.Test.YtaopilmekfecpaaGreatDoorProg
import Derived.KernelRfl
import Derived.Test.YtaopilmekfecpaaGreatDoorZ1
set_option linter.unusedVariables false
set_option linter.unusedSimpArgs false
namespace Go.Xg
open Go.RowKit Go.Xw
def getO:List Oper→Nat→Option Oper
 | [],_=>none
 | o::_,0=>some o
 | _::r,n+1=>getO r n
theorem getO_eq {ol:List Oper} {i:Nat} {o:Oper} (h:getO ol i=some o):ol.toArray[i]?=some o:=by
 have:∀ (ol:List Oper) (i:Nat),getO ol i=ol[i]?:=by
  intro ol
  induction ol with
  | nil=>intro i;rfl
  | cons x ol ih=>intro i;cases i with | zero=>rfl | succ i=>simpa [getO] using ih i
 rw [this] at h;simpa using h
section
variable {P:Program} {Q:List GV→List Ob→Prop} {ol:List Oper} {r:Ot} {pend:Pend} {fr:List GV} {Γ:List Ob} {i:Nat} {g:GV} {d:Option Tmp} {op:Op} {ty:TypeId} {pos:String} {af:Array Edge} {gd:Nat × Bool}
theorem dstO_eq {o:Oper} (h:getO ol i=some o):dstO ol.toArray i=o.dst:=by simp only [dstO,getO_eq h];rfl
theorem GO.more {ops:Array Oper}:∀ (r:Ot) (pend pend':Pend) (fr:List GV) (Γ:List Ob),(∀ p∈pend',p∈pend∨∀ Γ,YQ P ops p.1 p.2.1 p.2.2 Γ)→GO P ops Q r pend fr Γ→GO P ops Q r pend' fr Γ
 | .nil,_,_,_,_,_,h=>h
 | .q i r,pend,pend',fr,Γ,hs,⟨g,h1,h2⟩=>⟨g,h1,GO.more r _ _ _ _ (fun p hp=>by
   rcases List.mem_cons.1 hp with rfl | hp
   ·exact .inl (List.mem_cons_self)
   ·exact (hs p hp).imp (List.mem_cons_of_mem _) id) h2⟩
 | .a i r,pend,pend',fr,Γ,hs,h=>GI.mono h fun g Γ' ⟨h1,h2⟩=>by
   have hs':∀ p∈stay ops i pend',p∈stay ops i pend∨∀ Γ,YQ P ops p.1 p.2.1 p.2.2 Γ:=fun p hp=>by
    simp only [stay,List.mem_filter] at hp ⊢
    exact (hs p hp.1).imp (fun h=>⟨h,hp.2⟩) id
   exact ⟨fun p hp=>(hs' p hp).elim (h1 p) (fun h=>h Γ'),GO.more r _ _ _ _ hs' h2⟩
 | .f i r j s,pend,pend',fr,Γ,hs,h=>by
   have hs':∀ k,∀ p∈stay ops k pend',p∈stay ops k pend∨∀ Γ,YQ P ops p.1 p.2.1 p.2.2 Γ:=fun k p hp=>by
    simp only [stay,List.mem_filter] at hp ⊢
    exact (hs p hp.1).imp (fun h=>⟨h,hp.2⟩) id
   exact ⟨GI.mono h.1 fun g Γ' ⟨h1,h2⟩=>⟨fun p hp=>(hs' i p hp).elim (h1 p) (fun h=>h Γ'),GO.more r _ _ _ _ (hs' i) h2⟩,GI.mono h.2 fun g Γ' ⟨h1,h2⟩=>⟨fun p hp=>(hs' j p hp).elim (h1 p) (fun h=>h Γ'),GO.more s _ _ _ _ (hs' j) h2⟩⟩
theorem GO.skip {ops:Array Oper} {x:Nat × GV × List GV} (hx:∀ Γ,YQ P ops x.1 x.2.1 x.2.2 Γ) (h:GO P ops Q r pend fr Γ):GO P ops Q r (x::pend) fr Γ:=by
 refine GO.more r pend _ fr Γ (fun p hp=>?_) h
 rcases List.mem_cons.1 hp with he | hp
 ·subst he;exact .inr hx
 ·exact .inl hp
theorem GO.yq {o:Oper} (hi:getO ol i=some o) (hy:YQ P ol.toArray i g fr Γ) (h:GO P ol.toArray Q r ((i,g,fr)::pend) (gput fr o.dst g) Γ):GO P ol.toArray Q (.q i r) pend fr Γ :=
 ⟨g,hy,by rw [dstO_eq hi];exact h⟩
theorem GO.yp {o:Oper} (hi:getO ol i=some o) (hy:∀ Γ,YQ P ol.toArray i g fr Γ) (h:GO P ol.toArray Q r pend (gput fr o.dst g) Γ):GO P ol.toArray Q (.q i r) pend fr Γ :=
 GO.yq hi (hy Γ) (GO.skip hy h)
theorem gG_t {c:Bool} {ops:List Oper} (hv:gGv ops fr gd.1=some (some c)) (hc:c=gd.2):gG ops fr (some gd)=some true:=by
 obtain ⟨j,b⟩:=gd
 simp only at hv hc
 simp only [gG,hv,hc];simp
theorem gG_f {c:Bool} {ops:List Oper} (hv:gGv ops fr gd.1=some (some c)) (hc:c=!gd.2):gG ops fr (some gd)=some false:=by
 obtain ⟨j,b⟩:=gd
 simp only at hv hc
 simp only [gG,hv,hc];simp
theorem YQ.t {o:Oper} (hi:getO ol i=some o) (hg:gG ol (maskF (o.looksAt ol.toArray) 0 fr) o.guard=some true) (hy:YG P o.op (maskF (o.looksAt ol.toArray) 0 fr) Γ g):YQ P ol.toArray i g fr Γ:=⟨o,true,getO_eq hi,hg,hy⟩
theorem YQ.f {o:Oper} (hi:getO ol i=some o) (hg:gG ol (maskF (o.looksAt ol.toArray) 0 fr) o.guard=some false):YQ P ol.toArray i (.v undef) fr Γ:=⟨o,false,getO_eq hi,hg,rfl⟩
theorem OQ (hi:getO ol i=some ⟨d,op,ty,pos,af,none⟩) (hy:YG P op (maskF (Oper.looksAt ol.toArray ⟨d,op,ty,pos,af,none⟩) 0 fr) Γ g) (h:GO P ol.toArray Q r ((i,g,fr)::pend) (gput fr d g) Γ):GO P ol.toArray Q (.q i r) pend fr Γ :=
 GO.yq hi (YQ.t hi rfl hy) h
theorem OP (hi:getO ol i=some ⟨d,op,ty,pos,af,none⟩) (hy:∀ Γ,YG P op (maskF (Oper.looksAt ol.toArray ⟨d,op,ty,pos,af,none⟩) 0 fr) Γ g) (h:GO P ol.toArray Q r pend (gput fr d g) Γ):GO P ol.toArray Q (.q i r) pend fr Γ :=
 GO.yp hi (fun Γ=>YQ.t hi rfl (hy Γ)) h
theorem OQt {c:Bool} (hi:getO ol i=some ⟨d,op,ty,pos,af,some gd⟩) (hv:gGv ol (maskF (Oper.looksAt ol.toArray ⟨d,op,ty,pos,af,some gd⟩) 0 fr) gd.1=some (some c)) (hc:c=gd.2) (hy:YG P op (maskF (Oper.looksAt ol.toArray ⟨d,op,ty,pos,af,some gd⟩) 0 fr) Γ g)
  (h:GO P ol.toArray Q r ((i,g,fr)::pend) (gput fr d g) Γ):GO P ol.toArray Q (.q i r) pend fr Γ :=
 GO.yq hi (YQ.t hi (gG_t hv hc) hy) h
theorem OPt {c:Bool} (hi:getO ol i=some ⟨d,op,ty,pos,af,some gd⟩) (hv:gGv ol (maskF (Oper.looksAt ol.toArray ⟨d,op,ty,pos,af,some gd⟩) 0 fr) gd.1=some (some c)) (hc:c=gd.2) (hy:∀ Γ,YG P op (maskF (Oper.looksAt ol.toArray ⟨d,op,ty,pos,af,some gd⟩) 0 fr) Γ g)
  (h:GO P ol.toArray Q r pend (gput fr d g) Γ):GO P ol.toArray Q (.q i r) pend fr Γ :=
 GO.yp hi (fun Γ=>YQ.t hi (gG_t hv hc) (hy Γ)) h
theorem ONf {c:Bool} (hi:getO ol i=some ⟨d,op,ty,pos,af,some gd⟩) (hv:gGv ol (maskF (Oper.looksAt ol.toArray ⟨d,op,ty,pos,af,some gd⟩) 0 fr) gd.1=some (some c)) (hc:c=!gd.2) (h:GO P ol.toArray Q r pend (gput fr d (.v undef)) Γ):GO P ol.toArray Q (.q i r) pend fr Γ :=
 GO.yp hi (fun Γ=>YQ.f hi (gG_f hv hc)) h
theorem mask_at:∀ (fr:List GV) (ts:List Nat) (k t:Nat),k+t∈ts→gnth (maskF ts k fr) t=gnth fr t
 | [],_,_,_,_=>rfl
 | g::fr,ts,k,0,h=>by
  have hc:ts.contains k=true:=List.contains_iff_mem.2 (by simpa using h)
  simp only [maskF,hc,gnth]
 | g::fr,ts,k,t+1,h=>by
  simp only [maskF,gnth]
  exact mask_at fr ts (k+1) t (by rw [show k+1+t=k+(t+1) by omega];exact h)
theorem mask_ev {o:Oper} {ops:Array Oper} {x:Operand} (h:x∈o.op.operands.toList):gev (maskF (o.looksAt ops) 0 fr) x=gev fr x:=by
 cases x with
 | tmp t =>
  refine mask_at fr _ 0 t ?_
  rw [Nat.zero_add]
  refine List.mem_append_left _ (List.mem_filterMap.2 ⟨.tmp t,h,rfl⟩)
 | _=>rfl
theorem OPm {x:Operand} (hi:getO ol i=some ⟨d,.move x,ty,pos,af,none⟩) (h:GO P ol.toArray Q r pend (gput fr d (gev fr x)) Γ):GO P ol.toArray Q (.q i r) pend fr Γ :=
 OP hi (fun Γ=>by
  have:=YG.mv (P:=P) (x:=x) (Γ:=Γ) (fr:=maskF (Oper.looksAt ol.toArray ⟨d,.move x,ty,pos,af,none⟩) 0 fr)
  rw [mask_ev (by simp [Op.operands])] at this;exact this) h
theorem OPa {x:Operand} (hi:getO ol i=some ⟨d,.assign x,ty,pos,af,none⟩) (h:GO P ol.toArray Q r pend (gput fr d (gev fr x)) Γ):GO P ol.toArray Q (.q i r) pend fr Γ :=
 OP hi (fun Γ=>by
  have:=YG.asg (P:=P) (x:=x) (Γ:=Γ) (fr:=maskF (Oper.looksAt ol.toArray ⟨d,.assign x,ty,pos,af,none⟩) 0 fr)
  rw [mask_ev (by simp [Op.operands])] at this;exact this) h
theorem OPmt {x:Operand} {c:Bool} (hi:getO ol i=some ⟨d,.move x,ty,pos,af,some gd⟩) (hv:gGv ol (maskF (Oper.looksAt ol.toArray ⟨d,.move x,ty,pos,af,some gd⟩) 0 fr) gd.1=some (some c)) (hc:c=gd.2) (h:GO P ol.toArray Q r pend (gput fr d (gev fr x)) Γ):GO P ol.toArray Q (.q i r) pend fr Γ :=
 OPt hi hv hc (fun Γ=>by
  have:=YG.mv (P:=P) (x:=x) (Γ:=Γ) (fr:=maskF (Oper.looksAt ol.toArray ⟨d,.move x,ty,pos,af,some gd⟩) 0 fr)
  rw [mask_ev (by simp [Op.operands])] at this;exact this) h
theorem OPkT {c a b:Operand} {t:Bool} (hi:getO ol i=some ⟨d,.pick c a b,ty,pos,af,none⟩) (hc:gev (maskF (Oper.looksAt ol.toArray ⟨d,.pick c a b,ty,pos,af,none⟩) 0 fr) c=.v (.bool t)) (ht:t=true) (h:GO P ol.toArray Q r pend (gput fr d (gev fr a)) Γ):GO P ol.toArray Q (.q i r) pend fr Γ :=
 OP hi (fun Γ=>by
  have:=YG.pkT (P:=P) (Γ:=Γ) (a:=a) (b:=b) hc ht
  rw [mask_ev (by simp [Op.operands])] at this;exact this) h
theorem OPkF {c a b:Operand} {t:Bool} (hi:getO ol i=some ⟨d,.pick c a b,ty,pos,af,none⟩) (hc:gev (maskF (Oper.looksAt ol.toArray ⟨d,.pick c a b,ty,pos,af,none⟩) 0 fr) c=.v (.bool t)) (ht:t=false) (h:GO P ol.toArray Q r pend (gput fr d (gev fr b)) Γ):GO P ol.toArray Q (.q i r) pend fr Γ :=
 OP hi (fun Γ=>by
  have:=YG.pkF (P:=P) (Γ:=Γ) (a:=a) (b:=b) hc ht
  rw [mask_ev (by simp [Op.operands])] at this;exact this) h
inductive StayL (P:Program) (ops:Array Oper) (i:Nat) (Γ':List Ob):Pend→Pend→Prop
 | n:StayL P ops i Γ' [] []
 | w {j:Nat} {g:GV} {fr0:List GV} {pend pend':Pend} (hw:waits ops i j=true) (h:StayL P ops i Γ' pend pend'):StayL P ops i Γ' ((j,g,fr0)::pend) pend'
 | y {j:Nat} {g:GV} {fr0:List GV} {pend pend':Pend} (hy:YQ P ops j g fr0 Γ') (h:StayL P ops i Γ' pend pend'):StayL P ops i Γ' ((j,g,fr0)::pend) ((j,g,fr0)::pend')
theorem stay_cons {ops:Array Oper} {q p:Nat × GV × List GV} (h:p∈stay ops i (q::pend)):(p=q∧waits ops i q.1=false)∨p∈stay ops i pend:=by
 simp only [stay,List.mem_filter] at h ⊢
 rcases List.mem_cons.1 h.1 with he | hp'
 ·subst he;exact .inl ⟨rfl,by simpa using h.2⟩
 ·exact .inr ⟨hp',h.2⟩
theorem StayL.spec {ops:Array Oper} {Γ':List Ob} {pend':Pend} (h:StayL P ops i Γ' pend pend'):(∀ p∈stay ops i pend,YQ P ops p.1 p.2.1 p.2.2 Γ')∧∀ p∈stay ops i pend,p∈pend':=by
 induction h with
 | n=>exact ⟨fun p hp=>(by cases hp),fun p hp=>(by cases hp)⟩
 | w hw h ih =>
  refine ⟨fun p hp=>?_,fun p hp=>?_⟩
  ·rcases stay_cons hp with ⟨_,h2⟩ | hp'
   ·simp only at h2;rw [hw] at h2;cases h2
   ·exact ih.1 p hp'
  ·rcases stay_cons hp with ⟨_,h2⟩ | hp'
   ·simp only at h2;rw [hw] at h2;cases h2
   ·exact ih.2 p hp'
 | y hy h ih =>
  refine ⟨fun p hp=>?_,fun p hp=>?_⟩
  ·rcases stay_cons hp with ⟨he,_⟩ | hp'
   ·subst he;exact hy
   ·exact ih.1 p hp'
  ·rcases stay_cons hp with ⟨he,_⟩ | hp'
   ·subst he;exact List.mem_cons_self
   ·exact List.mem_cons_of_mem _ (ih.2 p hp')
def dOk (fr:List GV):Option Tmp→Bool
 | none=>true
 | some t=>inL fr t
def OAfter (P:Program) (Q:List GV→List Ob→Prop) (ol:List Oper) (i:Nat) (r:Ot) (pend:Pend) (fr:List GV) (d:Option Tmp) (fr':List GV) (Γ':List Ob):Prop :=
 ∃ g pend',fr'=gput fr d g∧StayL P ol.toArray i Γ' pend pend'∧GO P ol.toArray Q r pend' (gput fr d g) Γ'
theorem GA.of {o:Oper} {Kt:GV→List Ob→Prop} {R:List GV→List Ob→Prop} {ops:Array Oper} (hg:o.guard=none) (hd:dOk fr o.dst=true) (hR:∀ fr' Γ',R fr' Γ'→∃ g,fr'=gput fr o.dst g∧Kt g Γ') (h:GL P Γ.length ops (gthn R (fun _ _ _=>False)) [o] fr Γ):GA P o Kt fr Γ:=fun B K β w l hI hF=>by
 have h1:=h (cur K β Γ w) K β w l rfl hI.here hF
 obtain ⟨d,op,ty,pos,af,gd⟩:=o
 simp only at hg;subst hg
 simp only at h1 hd
 unfold WL wpList at h1
 rw [if_pos (by rfl)] at h1
 rcases h1 with h1 | ⟨_,a0,w0,hf⟩
 ·rw [←act_eval]
  refine wp_opV h1 (fun c a w' hf=>?_) (fun a w' hf=>?_) ?_ ?_
  ·obtain ⟨l',_,_,_,_,_,_,_,hq⟩:=hf;exact hq
  ·obtain ⟨l',_,_,_,_,_,_,_,hq⟩:=hf;exact hq
  ·rintro v w' ⟨l',hl,K',β',fr',Γ',hI',hF',hq⟩
   obtain ⟨g,rfl,hk⟩:=hR fr' Γ' hq
   rw [act_put] at hl
   have hl':put l d v=l':=by
    have:=congrArg (fun a:Act=>a.tmps.toList) hl
    simpa [act] using this
   subst hl'
   refine ⟨K',β',g,Γ',hI'.kle,hI'.ble,hI.rebase hI',fun fr2 l2 h2=>?_,hk⟩
   cases d with
   | none=>exact h2
   | some t =>
    refine h2.upd t ?_
    have hv:=hF'.nth t
    have h3:nth (put l (some t) v) t=v:=nth_upd (inL_of hF hd) v
    have h4:gnth (gput fr (some t) g) t=g:=by
     have gen:∀ (fr:List GV) (t:Nat),inL fr t=true→gnth (gupd fr t g) t=g:=by
      intro fr
      induction fr with
      | nil=>intro t h;cases h
      | cons x fr ih=>intro t h;cases t with | zero=>rfl | succ t=>exact ih t h
     exact gen fr t hd
    rw [h3,h4] at hv;exact hv
  ·rintro d' w' ⟨l',hl,_⟩
   have:=congrArg (fun a:Act=>a.defers) hl
   cases d <;> simp [act,Act.put] at this
 ·obtain ⟨l',_,_,_,_,_,_,_,hq⟩:=hf;exact hq.elim
theorem OAfter.kt {fr':List GV} {Γ':List Ob} (h:OAfter P Q ol i r pend fr d fr' Γ'):∃ g,fr'=gput fr d g∧((∀ p∈stay ol.toArray i pend,YQ P ol.toArray p.1 p.2.1 p.2.2 Γ')∧GO P ol.toArray Q r (stay ol.toArray i pend) (gput fr d g) Γ'):=by
 obtain ⟨g,pend',h1,h2,h3⟩:=h
 obtain ⟨h4,h5⟩:=h2.spec
 exact ⟨g,h1,h4,GO.more r _ _ _ _ (fun p hp=>.inl (h5 p hp)) h3⟩
theorem OA (hi:getO ol i=some ⟨d,op,ty,pos,af,none⟩) (hd:dOk fr d=true) (h:GL P Γ.length ol.toArray (gthn (OAfter P Q ol i r pend fr d) (fun _ _ _=>False)) [⟨d,op,ty,pos,af,none⟩] fr Γ):GO P ol.toArray Q (.a i r) pend fr Γ:=by
 refine ⟨_,true,getO_eq hi,rfl,?_⟩
 exact (GA.of (o:=⟨d,op,ty,pos,af,none⟩) rfl hd (fun fr' Γ' hq=>OAfter.kt hq) h).mono fun g Γ' ⟨h1,h2⟩=>⟨h1,by rw [dstO_eq hi];exact h2⟩
theorem OAt {c:Bool} (hi:getO ol i=some ⟨d,op,ty,pos,af,some gd⟩) (hd:dOk fr d=true) (hv:gGv ol fr gd.1=some (some c)) (hc:c=gd.2) (h:GL P Γ.length ol.toArray (gthn (OAfter P Q ol i r pend fr d) (fun _ _ _=>False)) [⟨d,op,ty,pos,af,none⟩] fr Γ):GO P ol.toArray Q (.a i r) pend fr Γ:=by
 refine ⟨_,true,getO_eq hi,gG_t hv hc,?_⟩
 have:=(GA.of (o:=⟨d,op,ty,pos,af,none⟩) rfl hd (fun fr' Γ' hq=>OAfter.kt hq) h).mono (Kt':=fun g Γ'=>(∀ p∈stay ol.toArray i pend,YQ P ol.toArray p.1 p.2.1 p.2.2 Γ')∧GO P ol.toArray Q r (stay ol.toArray i pend) (gput fr (dstO ol.toArray i) g) Γ') fun g Γ' ⟨h1,h2⟩=>⟨h1,by rw [dstO_eq hi];exact h2⟩
 exact this
theorem OAf {c:Bool} {pend':Pend} (hi:getO ol i=some ⟨d,op,ty,pos,af,some gd⟩) (hv:gGv ol fr gd.1=some (some c)) (hc:c=!gd.2) (hs:StayL P ol.toArray i Γ pend pend') (h:GO P ol.toArray Q r pend' (gput fr d (.v undef)) Γ):GO P ol.toArray Q (.a i r) pend fr Γ :=
 ⟨_,false,getO_eq hi,gG_f hv hc,hs.spec.1,by rw [dstO_eq hi];exact GO.more r _ _ _ _ (fun p hp=>.inl (hs.spec.2 p hp)) h⟩
theorem GO.nil (h:Q fr Γ):GO P ol.toArray Q .nil pend fr Γ:=h
theorem OAfter.mk {pend':Pend} (hs:StayL P ol.toArray i Γ pend pend') {fr0:List GV} (h:GO P ol.toArray Q r pend' (gput fr0 d g) Γ):OAfter P Q ol i r pend fr0 d (gput fr0 d g) Γ:=⟨g,pend',rfl,hs,h⟩
theorem GONM {ops:Array Oper} {fr':List GV} {Γ':List Ob} (h1:fr=fr') (h2:Γ=Γ') (h:GO P ops Q r pend fr' Γ'):GO P ops Q r pend fr Γ:=by subst h1;subst h2;exact h
theorem GON {ops:Array Oper} {fr':List GV} (h1:fr=fr') (h:GO P ops Q r pend fr' Γ):GO P ops Q r pend fr Γ:=by subst h1;exact h
end
theorem GW.range {P:Program} {m:Nat} {Q:GPost} {fr:List GV} {Γ:List Ob} {B C r1 r2:Nat} {body:Code} {tb ti tn ta:Tmp} {T1 T2 T3 T4 T5 T6 T7:TypeId} {p1 p2 p3:String} {a1 a2 a3:Array Edge} (n:Nat) (I:Nat→List GV→List Ob→Prop)
  (h0:GWk m (I 0) fr Γ) (hn:n≤1099511627776)
  (hI:∀ k fr Γ,I k fr Γ→gnth fr ti=.v (ii k)∧gnth fr tn=.v (ii n)∧inL fr tb=true)
  (hbody:∀ k fr Γ,k < n→I k fr Γ→GW P m body (ginb C (gthn (fun fr' Γ'=>gnth fr' ti=.v (ii k)∧inL fr' ta=true∧GWk m (I (k+1)) (gupd (gupd fr' ta (.v (ii ((k+1:Nat):Int)))) ti (.v (ii ((k+1:Nat):Int)))) Γ') (ginb B Q))) (gupd fr tb (.v (.bool true))) Γ)
  (hend:∀ fr Γ,I n fr Γ→Q .normal (gupd fr tb (.v (.bool false))) Γ) :
  GW P m (.loop (.seq (.region r1 [(⟨some tb,.binOp .lss T1 (.tmp ti) (.tmp tn) T2,T3,p1,a1,none⟩:Oper)].toArray false) (.seq (.cond (.tmp tb) .skip (.exit B))
   (.seq (.block C body) (.region r2 [(⟨some ta,.binOp .add T4 (.tmp ti) (.const (.int .i64 1)) T5,T6,p2,a2,none⟩:Oper),⟨some ti,.move (.tmp ta),T7,p3,a3,none⟩].toArray false))))) (ginb B Q) fr Γ:=by
 have hgt:∀ (fr:List GV) (t:Nat) (g:GV),inL fr t=true→gnth (gupd fr t g) t=g:=by
  intro fr
  induction fr with
  | nil=>intro t g h;cases h
  | cons x fr ih=>intro t g h;cases t with | zero=>rfl | succ t=>exact ih t g h
 refine GW.loop (fun k:Nat=>n - k) (fun k fr Γ=>k≤n∧I k fr Γ) 0 ?_ ?_
 ·obtain ⟨fr',Γ',hw,h⟩:=h0;exact ⟨fr',Γ',hw,Nat.zero_le _,h⟩
 rintro k fr Γ ⟨hk,hi⟩
 obtain ⟨h1,h2,h3⟩:=hI k fr Γ hi
 refine GW.seq (GW.region (GL.q (YG.go (v:=.bool (decide ((k:Int) < (n:Int)))) ?_) (GL.nil (gthn_n ?_))))
 ·simp only [go2,Xw.go,gev,h1,h2,gval,goBin,ii,sameK,goCmp]
 by_cases hlt:k < n
 ·have hd:decide ((k:Int) < (n:Int))=true:=by simpa using hlt
  simp only [gput,hd]
  refine GW.seq (GC1 (hgt fr tb _ h3) rfl (GW.skip (gthn_n (GW.seq (GW.block ?_)))))
  refine GW.mono (hbody k fr Γ hlt hi) ?_
  intro e fr' Γ' hq
  have key:∀ fr' Γ',(gnth fr' ti=.v (ii k)∧inL fr' ta=true∧GWk m (I (k+1)) (gupd (gupd fr' ta (.v (ii ((k+1:Nat):Int)))) ti (.v (ii ((k+1:Nat):Int)))) Γ') →
    GW P m (.region r2 [(⟨some ta,.binOp .add T4 (.tmp ti) (.const (.int .i64 1)) T5,T6,p2,a2,none⟩:Oper),⟨some ti,.move (.tmp ta),T7,p3,a3,none⟩].toArray false) (gthn (fun fr' Γ'=>∃ y:Nat,GWk m (fun fr Γ=>y≤n∧I y fr Γ) fr' Γ'∧n - y < n - k) (ginb B Q)) fr' Γ':=by
   rintro fr' Γ' ⟨h5,h6,fr2,Γ2,hw,h7⟩
   refine GW.region (GL.q (YG.add1 (a:=k) h5 rfl (by omega)) (GL.q YG.mv (GL.nil (gthn_n ⟨k+1,⟨fr2,Γ2,?_,hlt,h7⟩,by omega⟩))))
   have h8:gev (gupd fr' ta (.v (ii ((k+1:Nat):Int)))) (.tmp ta)=.v (ii ((k+1:Nat):Int)):=hgt fr' ta _ h6
   simp only [gput,h8]
   exact hw
  cases e with
  | normal=>exact key fr' Γ' hq
  | exit id =>
   simp only [ginb] at hq ⊢
   split <;> rename_i hh
   ·rw [if_pos hh] at hq;exact key fr' Γ' hq
   ·rw [if_neg hh] at hq;exact hq
  | goto _=>exact hq
  | ret=>exact hq
  | panic _=>exact hq
  | outgrown=>exact hq
 ·have hkn:k=n:=by omega
  have hd:decide ((k:Int) < (n:Int))=false:=by simpa using hlt
  simp only [gput,hd]
  refine GW.seq (GC0 (hgt fr tb _ h3) rfl (GW.exit (gthn_x (gthn_x (ginb_xe ?_)))))
  subst hkn
  exact hend fr Γ hi
end Go.Xg
namespace Go.Xg
open Go.RowKit Go.Xw
def GLe (g g':GV):Prop:=∀ K β x,Rel K β x g→Rel K β x g'
def GLeL (gs hs:List GV):Prop:=∀ K β vs,RelL K β vs gs→RelL K β vs hs
theorem GLe.refl {g:GV}:GLe g g:=fun _ _ _ h=>h
theorem GLe.any {g:GV}:GLe g .any:=fun _ _ _ _=>.any _
theorem GLe.nil {k:Nat}:GLe (.v (.slice none 0 0)) (.sl k []):=fun K β x h=>by
 rw [Rel.v_inv h];exact .sl0 _ _ _
theorem GLeL.nil:GLeL [] []:=fun _ _ _ h=>h
theorem GLeL.refl {gs:List GV}:GLeL gs gs:=fun _ _ _ h=>h
theorem GLeL.cons {g h:GV} {gs hs:List GV} (h1:GLe g h) (h2:GLeL gs hs):GLeL (g::gs) (h::hs):=fun K β vs hv=>by
 cases vs with
 | nil=>have:=hv.1;simp at this
 | cons v vs=>obtain ⟨a,b⟩:=hv.uncons;exact .cons (h1 K β v a) (h2 K β vs b)
theorem GLe.agg {gs hs:List GV} (h:GLeL gs hs):GLe (.agg gs) (.agg hs):=fun K β x hx=>by
 cases hx with
 | agg vs _ hl h'=>obtain ⟨a,b⟩:=h K β vs ⟨hl,h'⟩;exact .agg vs hs a b
theorem GLe.tup {gs hs:List GV} (h:GLeL gs hs):GLe (.tup gs) (.tup hs):=fun K β x hx=>by
 cases hx with
 | tup vs _ hl h'=>obtain ⟨a,b⟩:=h K β vs ⟨hl,h'⟩;exact .tup vs hs a b
inductive FLe:List GV→List GV→Prop
 | nil:FLe [] []
 | cons {f g:GV} {fs gs:List GV} (h:GLe f g) (t:FLe fs gs):FLe (f::fs) (g::gs)
section
variable {P:Program} {m:Nat} {Q:GPost} {fr:List GV} {Γ:List Ob} {ops:Array Oper} {rest:List Oper} {d:Option Tmp} {op:Op} {ty:TypeId} {pos:String} {af:Array Edge}
theorem Wk.cells (i:Nat) {E:TypeId} {cs ds:List GV} (hi:Γ[i]?=some (.box E cs)) (h:GLeL cs ds):Wk m fr Γ fr (oset Γ i (.box E ds)):=fun B K β w l _ hI hF=>by
 rw [oset_eq]
 refine ⟨K,β,⟨hI.ext,hI.kle,hI.ble,hI.loc,hI.fz,fun j x hj=>?_,fun j hj=>hI.out j (by simpa using hj),hI.dis,hI.own,hI.kn,hI.tab⟩,hF⟩
 rw [List.getElem?_set] at hj
 split at hj
 ·rename_i hij
  split at hj
  ·cases hj;subst hij
   obtain ⟨b,vs,h1,h2,h3,h4⟩:=hI.ob i _ hi
   exact ⟨b,vs,h1,h2,h K β vs h3,h4⟩
  ·cases hj
 ·exact hI.ob j x hj
theorem GL.call' {f:FuncId} [hf:Fun P f] (sel:List Nat) {args:List Operand} {tys:Array TypeId} {gs:List GV} {Γc:List Ob} {R:GV→List Ob→Prop} (hc:GC P f gs Γc R) (ha:GLeL (args.map (gev fr)) (renL (selF sel Γ.length) gs)) (hok:okSel sel Γ.length=true)
  (hΓ:seen (selF sel Γ.length) Γ sel Γc) (h:∀ g Γ',R g Γ'→sel.length≤Γ'.length∧GL P m ops Q rest (gput fr d (ren (selF sel Γ.length) g)) (setAll Γ sel (Γ'.map (Ob.ren (selF sel Γ.length))))) :
  GL P m ops Q (⟨d,.call ⟨.value (.func f),args.toArray,tys⟩,ty,pos,af,none⟩::rest) fr Γ :=
 GL.calls (vs:=fun l=>args.map (ev l)) (fun K β w l hF=>⟨ha K β _ (hF.args args),by simp [execOp,resolve,ev,Deferred.ofValue,invoke,run_callFunc]⟩) hok hΓ hc h
theorem GL.callF {f:FuncId} [hf:Fun P f] (sel:List Nat) {args:List Operand} {tys:Array TypeId} {gs:List GV} {Γc Γc':List Ob} {g:GV} (hc:GF P f gs Γc g Γc') (ha:GLeL (args.map (gev fr)) (renL (selF sel Γ.length) gs)) (hok:okSel sel Γ.length=true)
  (hΓ:seen (selF sel Γ.length) Γ sel Γc) (hl:Nat.ble sel.length Γc'.length=true) (h:GL P m ops Q rest (gput fr d (ren (selF sel Γ.length) g)) (setAll Γ sel (Γc'.map (Ob.ren (selF sel Γ.length))))) :
  GL P m ops Q (⟨d,.call ⟨.value (.func f),args.toArray,tys⟩,ty,pos,af,none⟩::rest) fr Γ :=
 GL.call' sel hc ha hok hΓ fun g' Γ' ⟨h1,h2⟩=>by subst h1;subst h2;exact ⟨by simpa using hl,h⟩
end
section
variable {P:Program} {fr:List GV} {Γ:List Ob} {g:GV}
theorem K.bin {o:BinOp} {t t':TypeId} {x y:Operand} (h:YG P (.binOp o t x y t') fr Γ g):YG P (.binOp o t x y t') fr Γ g:=h
theorem K.ld {t:TypeId} {x:Operand} (h:YG P (.load t x) fr Γ g):YG P (.load t x) fr Γ g:=h
theorem K.fld {t:TypeId} {x:Operand} {i:Nat} (h:YG P (.fieldAddr t x i) fr Γ g):YG P (.fieldAddr t x i) fr Γ g:=h
theorem K.len {t:TypeId} {x:Operand} (h:YG P (.call ⟨.builtin .len,#[x],#[t]⟩) fr Γ g):YG P (.call ⟨.builtin .len,#[x],#[t]⟩) fr Γ g:=h
theorem K.nck {x:Operand} (h:YG P (.nilCheck x) fr Γ g):YG P (.nilCheck x) fr Γ g:=h
theorem K.idx {t:TypeId} {x y:Operand} (h:YG P (.indexAddr t x y) fr Γ g):YG P (.indexAddr t x y) fr Γ g:=h
theorem K.pick {a b c:Operand} (h:YG P (.pick a b c) fr Γ g):YG P (.pick a b c) fr Γ g:=h
theorem K.slc {t:TypeId} {x:Operand} {a b c:Option Operand} (h:YG P (.slice t x a b c) fr Γ g):YG P (.slice t x a b c) fr Γ g:=h
theorem K.mkfn {f:Fn} {a b:Array Operand} (h:YG P (.makeFunc f a b) fr Γ g):YG P (.makeFunc f a b) fr Γ g:=h
end
theorem GC.le {P:Program} {f:FuncId} {gs:List GV} {Γ Γ':List Ob} {g g':GV} (h:GF P f gs Γ g Γ') (hg:GLe g g'):GF P f gs Γ g' Γ':=fun B K β w vs hm hI hF =>
 (h B K β w vs hm hI hF).mono fun v w' ⟨K',β',x,Δ,h1,h2,h3,h4⟩=>by subst h3;subst h4;exact ⟨K',β',g',_,h1,hg _ _ _ h2,rfl,rfl⟩
section
variable {P:Program} {fn:Func} {m:Nat} {fr:List GV} {Γ Γ':List Ob} {e:Exit} {g:GV}
theorem gbp_le {R:GV→List Ob→Prop} (h:gbp P fn m (fun x Δ=>∃ y,GLe x y∧R y Δ) e fr Γ):gbp P fn m R e fr Γ :=
 ⟨h.1,fun B K β w l hm hI hF=>by
  obtain ⟨v,K',β',x,Δ,h1,h2,h3,y,h4,h5⟩:=h.2 B K β w l hm hI hF
  exact ⟨v,K',β',y,Δ,h1,h2,h4 _ _ _ h3,h5⟩⟩
end
end Go.Xg
namespace Go.Xg
open Go.RowKit Go.Xw
section
variable {P:Program} {m:Nat} {Q:GPost} {fr:List GV} {Γ:List Ob} {ops:Array Oper} {rest:List Oper} {d:Option Tmp} {op:Op} {ty:TypeId} {pos:String} {af:Array Edge}
theorem GW.join {c y:Code} (K:List GV→List Ob→Prop) (h1:GW P m c (gthn (GWk m K) Q) fr Γ) (h2:∀ fr Γ,K fr Γ→GW P m y Q fr Γ):GW P m c (gthn (GW P m y Q) Q) fr Γ:=by
 refine h1.mono fun e fr Γ hq=>?_
 cases e with
 | normal=>obtain ⟨fr',Γ',hw,hk⟩:=hq;exact GW.wk hw (h2 _ _ hk)
 | _=>exact hq
theorem YG.idxSlC {x y:Operand} {t e:TypeId} {k:Nat} [hT:SlT P t e k] {rows:List (List GV)} {kk:IntKind} {n:Int} {i:Nat} {r:List GV} (hx:gev fr x=.sl k rows) (hy:gev fr y=.v (.int kk n)) (hr:rows[i]?=some r) (hi:n=(i:Int)):YG P (.indexAddr t x y) fr Γ (.box r 0):=by
 subst hi;exact YG.idxSl hx hy hr
def onesR:List (List GV)→Bool
 | []=>true
 | r::rs=>ones1 r&&onesR rs
theorem onesR_flat {rows:List (List GV)} (h:onesR rows=true):ones1 rows.flatten=true:=by
 induction rows with
 | nil=>rfl
 | cons r rs ih =>
  simp only [onesR,Bool.and_eq_true] at h
  have happ:∀ (a b:List GV),ones1 a=true→ones1 b=true→ones1 (a++b)=true:=by
   intro a
   induction a with
   | nil=>intro b _ hb;exact hb
   | cons x a iha =>
    intro b ha hb
    simp only [ones1,Bool.and_eq_true] at ha
    simp only [List.cons_append,ones1,Bool.and_eq_true]
    exact ⟨ha.1,iha b ha.2 hb⟩
  rw [List.flatten_cons]
  exact happ _ _ h.1 (ih h.2)
theorem GL.app {s x:Operand} {t e k by':Nat} [hT:ApT P t e k by'] {i n fz:Nat} {rows news:List (List GV)} (hx:gev fr x=.sl k news) (hs:gev fr s=.vec i n) (hΓ:Γ[i]?=some (.vec e k fz rows)) (hn:rows.length=n) (h1:onesR news=true) (hne:news.isEmpty=false)
  (hb:n+news.length≤9223372036854775807∧(n+news.length) * by'≤140737488355328)
  (h:GL P m ops Q rest (gput fr d (.vec i (n+news.length))) (oset Γ i (.vec e k fz (rows++news)))) :
  GL P m ops Q (⟨d,.call ⟨.builtin .append,#[s,x],#[t,t]⟩,ty,pos,af,none⟩::rest) fr Γ:=fun B K β w l hm hI hF=>by
 subst hn
 have hne:news≠[]:=by intro h0;rw [h0] at hne;cases hne
 obtain ⟨h0,xs,o1,o2,o3,o4,o5,o6⟩:=hI.ob i _ hΓ
 have hsr:=hF.ev s;rw [hs] at hsr
 have hsv:ev l s=h0:=by
  generalize hv:ev l s=v at hsr
  cases hsr with
  | vec _ _ a c hh =>
   obtain ⟨h',m',e1,e2,e3⟩:=hh
   rw [o1] at e1;cases e1
   exact e3 rfl
 have hxr:=hF.ev x;rw [hx] at hxr
 generalize hxv:ev l x=v at hxr
 cases hxr with
 | sl0 a c k=>exact absurd rfl hne
 | sl b o c _ _ hr _ =>
  have hrows:rowsOk k news:=fun r hr'=>by
   obtain ⟨j,hj⟩:=List.mem_iff_getElem?.1 hr'
   refine ⟨(hr j r hj).1,fun g hg=>?_⟩
   obtain ⟨q,hq⟩:=List.mem_iff_getElem?.1 hg
   exact (hI.fz _ _ _ ((hr j r hj).2 q g hq)).1
  have hflat:∀ (rows:List (List GV)) (o:Nat),(∀ (j:Nat) r,rows[j]?=some r→r.length=k∧∀ (q:Nat) g,r[q]?=some g→K b (o+j * k+q)=some g)→∀ (q:Nat) g,rows.flatten[q]?=some g→K b (o+q)=some g:=by
   intro rows
   induction rows with
   | nil=>intro o _ q g hg;simp at hg
   | cons r rows ih =>
    intro o h q g hg
    rw [List.flatten_cons] at hg
    have hl:=(h 0 r rfl).1
    by_cases hq:q < r.length
    ·rw [List.getElem?_append_left hq] at hg
     have:=(h 0 r rfl).2 q g hg
     simpa using this
    ·rw [List.getElem?_append_right (by omega),hl] at hg
     have:=ih (o+k) (fun j r' hj=>by
      have:=h (j+1) r' (by simpa using hj)
      refine ⟨this.1,fun q g hg=>?_⟩
      have:=this.2 q g hg
      rw [show o+(j+1) * k+q=o+k+j * k+q by rw [Nat.succ_mul];omega] at this;exact this) (q - k) g hg
     rw [show o+k+(q - k)=o+q by omega] at this;exact this
  obtain ⟨us,hu1,hu2⟩:=cells_of (K:=K) (β:=β) (H:=w.heap) (b:=b) news.flatten o (fun j g hj=>by
   obtain ⟨hp,u,hu,hrel⟩:=hI.fz _ _ _ (hflat news o (fun j r hj=>hr j r hj) j g hj)
   exact ⟨u,hu,hrel.pc hp⟩)
  have hul:us.length=news.length * k:=by
   rw [hu1.1,List.length_flatten]
   have:∀ (rows:List (List GV)),rowsOk k rows→(rows.map List.length).sum=rows.length * k:=by
    intro rows
    induction rows with
    | nil=>intro _;simp
    | cons r rows ih =>
     intro hk
     rw [List.map_cons,List.sum_cons,ih (fun r hr=>hk r (List.mem_cons_of_mem _ hr)),(hk r (List.mem_cons_self)).1,List.length_cons,Nat.succ_mul];omega
   exact this news hrows
  refine WL.app (base:=0) (v:=h0) (n:=rows.length) (m:=news.length) (xs:=xs) (news:=us) hsv o2 hxv hul (fun j u hj=>by rw [cell_eq];exact hu2 j u hj) (hu1.ones (onesR_flat h1)) hb.1 hb.2 (Nat.zero_le _) ?_
  intro v' w' how hext hfr hor
  obtain ⟨K',hK,hβ,hI'⟩:=hI.grow hΓ o1 ⟨o2,o3⟩ (news:=news) (ns:=us) how hext hfr hu1 hrows hne (fun b hb' o v ho hv=>by
   rcases hor with h7 | h7
   ·exact h7.c hv (fun h=>h)
   ·have hlo:o < xs.length:=by rw [o2.1];exact Nat.lt_of_lt_of_le ho (Nat.mul_le_mul_right k o6)
    obtain ⟨b2,c2,he2,_,_,hc2⟩:=o2.cells.2 (by intro h0;rw [h0] at hlo;simp at hlo)
    have hb2:b2=b:=by rw [he2] at hb';cases hb';rfl
    subst hb2
    have hxo:=hc2 o xs[o] (by simp [hlo])
    rw [cell_eq,hv] at hxo;cases hxo
    obtain ⟨b3,c3,he3,_,_,hc3⟩:=how.cells.2 (by intro h0;have:xs=[]:=(List.append_eq_nil_iff.1 h0).1;rw [this] at hlo;simp at hlo)
    have hb3:b3=b2:=by rw [he3,hb'] at h7;cases h7;rfl
    subst hb3
    rw [←cell_eq];exact hc3 o _ (by rw [List.getElem?_append_left hlo];simp [hlo]))
  rw [←oset_eq] at hI'
  refine h B K' _ w' _ hm hI' ((hF.mono hK hβ).put d ?_)
  obtain ⟨a,c,rfl⟩:=how.shape
  exact .vec i _ a c ⟨_,_,setβ_same,by simp,fun _=>by simp⟩
theorem Wk.nilC {i o:Nat} {T:TypeId} {cs:List GV} (E k:Nat) (hi:Γ[i]?=some (.box T cs)) (ho:cs[o]?=some (.v (.slice none 0 0))):Wk m fr Γ fr (oset Γ i (.box T (gupd cs o (.vec Γ.length 0)))++[.vec E k 0 []]):=fun B K β w l hm hI hF=>by
 have hno:β Γ.length=.no:=hI.out _ (Nat.le_refl _)
 have hlt:i < Γ.length:=(List.getElem?_eq_some_iff.1 hi).1
 have hI':=hI.addV (w':=w) (E:=E) (k:=k) (x:=.slice none 0 0) (xs:=[]) (rows:=[]) (Ext.refl w) (Own.nil w 0 E k) (fun b hb=>by cases hb) RelL.nil (fun r hr=>by cases hr)
 have hle:BLe β (setβ β Γ.length (.gr (.slice none 0 0) ([]:List (List GV)).length)):=setβ_le (by rw [hno];trivial)
 refine ⟨K,_,⟨hI'.ext,hI'.kle,hI'.ble,hI'.loc,hI'.fz,fun j x hj=>?_,fun j hj=>hI'.out j (by simp [oset_eq] at hj ⊢;exact hj),hI'.dis,hI'.own,hI'.kn,hI'.tab⟩,hF.mono (KLe.refl K) hle⟩
 by_cases hji:j=i
 ·subst hji
  rw [List.getElem?_append_left (by simp [oset_eq];exact hlt),oset_eq,List.getElem?_set] at hj
  simp [hlt] at hj;subst hj
  obtain ⟨b,vs,h1,h2,h3,h4⟩:=hI'.ob j (.box T cs) (by rw [List.getElem?_append_left hlt];exact hi)
  refine ⟨b,vs,h1,h2,?_,h4⟩
  have gen:∀ (vs:List Value) (cs:List GV) (o:Nat),RelL K (setβ β Γ.length (.gr (.slice none 0 0) ([]:List (List GV)).length)) vs cs→cs[o]?=some (.v (.slice none 0 0))→RelL K (setβ β Γ.length (.gr (.slice none 0 0) ([]:List (List GV)).length)) vs (gupd cs o (.vec Γ.length 0)):=by
   intro vs
   induction vs with
   | nil=>intro cs o h ho;have:cs=[]:=List.eq_nil_of_length_eq_zero h.1.symm;subst this;simp at ho
   | cons v vs ih =>
    intro cs o h ho
    cases cs with
    | nil=>simp at ho
    | cons c cs =>
     obtain ⟨a1,a2⟩:=h.uncons
     cases o with
     | zero =>
      cases ho
      have hv:=Rel.v_inv a1
      subst hv
      exact .cons (.vec _ 0 none 0 ⟨_,_,setβ_same,Nat.le_refl _,fun _=>rfl⟩) a2
     | succ o=>exact .cons a1 (ih cs o a2 (by simpa using ho))
  exact gen vs cs o h3 ho
 ·refine hI'.ob j x ?_
  by_cases hjl:j < Γ.length
  ·rw [List.getElem?_append_left (by simp [oset_eq];exact hjl),oset_eq,List.getElem?_set,if_neg (fun e=>hji e.symm)] at hj
   rw [List.getElem?_append_left hjl];exact hj
  ·rw [List.getElem?_append_right (by simp [oset_eq];omega)] at hj
   rw [List.getElem?_append_right (by omega)]
   simpa [oset_eq] using hj
theorem Wk.snapC {i o j n E k fz:Nat} {T:TypeId} {cs:List GV} {rows:List (List GV)} (hi:Γ[i]?=some (.box T cs)) (ho:cs[o]?=some (.vec j n)) (hij:Nat.beq i j=false) (hj:Γ[j]?=some (.vec E k fz rows)) (hn:rows.length=n):Wk m fr Γ fr (oset (oset Γ j (.vec E k n rows)) i (.box T (gupd cs o (.sl k rows)))):=fun B K β w l hm hI hF=>by
 subst hn
 have hne:i≠j:=by intro e;subst e;simp at hij
 obtain ⟨h0,xs,o1,o2,o3,o4,o5,o6⟩:=hI.ob j _ hj
 obtain ⟨K',hK,hfz,hI'⟩:=hI.snap hj
 rw [←oset_eq] at hI'
 refine ⟨K',β,⟨hI'.ext,hI'.kle,hI'.ble,hI'.loc,hI'.fz,fun q x hq=>?_,fun q hq=>hI'.out q (by simpa [oset_eq] using hq),hI'.dis,hI'.own,hI'.kn,hI'.tab⟩,hF.mono hK (BLe.refl β)⟩
 by_cases hqi:q=i
 ·subst hqi
  have hlt:q < Γ.length:=(List.getElem?_eq_some_iff.1 hi).1
  rw [oset_eq,List.getElem?_set] at hq
  simp [oset_eq,hlt] at hq;subst hq
  obtain ⟨b,vs,h1,h2,h3,h4⟩:=hI'.ob q (.box T cs) (by rw [oset_eq,List.getElem?_set,if_neg (fun e=>hne e.symm)];exact hi)
  refine ⟨b,vs,h1,h2,?_,h4⟩
  have gen:∀ (vs:List Value) (cs:List GV) (o:Nat),RelL K' β vs cs→cs[o]?=some (.vec j rows.length)→RelL K' β vs (gupd cs o (.sl k rows)):=by
   intro vs
   induction vs with
   | nil=>intro cs o h ho;have:cs=[]:=List.eq_nil_of_length_eq_zero h.1.symm;subst this;simp at ho
   | cons v vs ih =>
    intro cs o h ho
    cases cs with
    | nil=>simp at ho
    | cons c cs =>
     obtain ⟨a1,a2⟩:=h.uncons
     cases o with
     | zero =>
      cases ho
      refine .cons ?_ a2
      cases a1 with
      | vec _ _ a c hh =>
       obtain ⟨h',m',e1,e2,e3⟩:=hh
       rw [o1] at e1;cases e1
       have e4:=e3 rfl
       rcases o2.2 with ⟨e5,e6⟩ | ⟨g,cap,cu,e5,_,_,hnc,_⟩
       ·have:rows=[]:=List.eq_nil_of_length_eq_zero e6
        subst this
        exact .sl0 _ _ _
       ·rw [e5] at e4;cases e4
        refine .sl g 0 _ k rows (fun j r hr=>⟨(o4 r (List.mem_of_getElem? hr)).1,fun q g' hg'=>?_⟩) hnc
        rw [Nat.zero_add]
        exact hfz _ g o1 (by rw [e5];rfl) _ g' (row_at o4 hr hg')
     | succ o=>exact .cons a1 (ih cs o a2 (by simpa using ho))
  exact gen vs cs o h3 ho
 ·rw [oset_eq,List.getElem?_set,if_neg (fun e=>hqi e.symm)] at hq
  exact hI'.ob q x hq
end
end Go.Xg
namespace Go.Xg
open Go.RowKit Go.Xw
class IntT (P:Program) (t:TypeId) (k:outParam IntKind):Prop where
 und:P.underlying t=some (.int k)
class ByT (P:Program) (t:TypeId):Prop where
 und:∃ e,P.underlying t=some (.slice e)∧P.underlying e=some (.int .u8)
theorem ByT.mk' {P:Program} {t e:TypeId} (h:P.underlying t=some (.slice e)) (k:P.underlying e=some (.int .u8)):ByT P t:=⟨e,h,k⟩
section
variable {P:Program} {m:Nat} {Q:GPost} {fr:List GV} {Γ:List Ob} {ops:Array Oper} {rest:List Oper} {d:Option Tmp} {op:Op} {ty:TypeId} {pos:String} {af:Array Edge}
theorem YG.subU {x y:Operand} {t t':TypeId} {a b:Int} (hx:gev fr x=.v (.int .u8 a)) (hy:gev fr y=.v (.int .u8 b)) (hb:0≤a - b∧a - b≤255):YG P (.binOp .sub t x y t') fr Γ (.v (.int .u8 (a - b))) :=
 YG.v2 hx hy fun l w h k d ty pos af=>by simp [execOp,eqGuard,h,k,binOp,Op.intArith,IntWalk.u8_in _ hb]
theorem YG.quo {x y:Operand} {t t':TypeId} {a b:Int} (hx:gev fr x=.v (ii a)) (hy:gev fr y=.v (ii b)) (hb:0≤a∧a≤9223372036854775807∧1≤b):YG P (.binOp .quo t x y t') fr Γ (.v (ii (a / b))) :=
 YG.v2 hx hy fun l w h k d ty pos af=>by
  have hne:b≠0:=by omega
  simp [execOp,eqGuard,h,k,binOp,Op.intDiv,hne,IntWalk.i64_quo a b hb]
theorem YG.rem {x y:Operand} {t t':TypeId} {a b:Int} (hx:gev fr x=.v (ii a)) (hy:gev fr y=.v (ii b)) (hb:0≤a∧1≤b):YG P (.binOp .rem t x y t') fr Γ (.v (ii (a % b))) :=
 YG.v2 hx hy fun l w h k d ty pos af=>by
  have hne:b≠0:=by omega
  simp [execOp,eqGuard,h,k,binOp,Op.intDiv,hne,IntWalk.rem_in a b hb.1]
theorem YG.cvt {x:Operand} {s t:TypeId} {k k':IntKind} {a:Int} [hS:IntT P s k'] [hT:IntT P t k] (hx:gev fr x=.v (.int k' a)) (hw:k.wrap a=a):YG P (.convert s t x) fr Γ (.v (.int k a)) :=
 YG.v1 hx fun l w h d ty pos af=>by simp [execOp,h,convert,run_underlying hS.und,run_underlying hT.und,Conv.intToInt,hw]
theorem YG.str {x:Operand} {s t:TypeId} {l:Str} {rows:List (List GV)} [hS:ByT P s] [hT:StrT P t] (hx:gev fr x=.sl 1 rows) (hr:rows=l.map fun c=>[.v (.int .u8 (c.toNat:Int))]):YG P (.convert s t x) fr Γ (.v (sv l)):=fun B K β w fl hI hF=>by
 subst hr
 obtain ⟨e,h1,h2⟩:=hS.und
 have h:=hF.ev x;rw [hx] at h
 generalize hv:ev fl x=v at h
 refine ⟨_,fun d ty pos af=>?_,.v _⟩
 have key:(convert s t v).run P w=.ok (sv l) w:=by
  generalize hrows:(l.map fun c=>[GV.v (.int .u8 (c.toNat:Int))])=rows at h
  cases h with
  | sl0 a c =>
   have:l=[]:=by cases l with | nil=>rfl | cons x l=>simp at hrows
   subst this
   cases a with
   | none=>rw [run_convert_bytes_string w s t e none 0 c h1 h2 hT.und];simp [Conv.bytesToString];rfl
   | some a=>exact run_convert_bytes_back w s t e a c [] h1 h2 hT.und (fun j hj=>by simp at hj)
  | sl b o c _ _ hc _ =>
   have hl:rows.length=l.length:=by rw [←hrows];simp
   rw [hl]
   refine run_convert_bytes_back w s t e ⟨b,o,none⟩ c l h1 h2 hT.und (fun j hj=>?_)
   have hrow:rows[j]?=some [GV.v (.int .u8 (l[j].toNat:Int))]:=by rw [←hrows];simp [hj]
   obtain ⟨_,u,hu,hrel⟩:=hI.fz _ _ _ ((hc j _ hrow).2 0 _ rfl)
   rw [add_mk,cell_eq]
   have:=Rel.v_inv hrel
   subst this
   simpa using hu
 simp [execOp,hv,key]
end
end Go.Xg
namespace Go.Xg
open Go.RowKit Go.Xw
structure Hid (B:Prop):Prop where
 h:B
structure Cal (sel:List Nat) (C:Prop):Prop where
 h:C
section
variable {P:Program} {m:Nat} {ops:Array Oper} {Q:GPost} {rest:List Oper} {fr:List GV} {Γ:List Ob} {d:Option Tmp} {ty:TypeId} {pos:String} {af:Array Edge}
theorem GL.callFc {f:FuncId} [hf:Fun P f] {sel:List Nat} {args:List Operand} {tys:Array TypeId} {gs:List GV} {Γc Γc':List Ob} {g:GV} (hc:Cal sel (GF P f gs Γc g Γc')) (ha:GLeL (args.map (gev fr)) (renL (selF sel Γ.length) gs)) (hok:okSel sel Γ.length=true)
  (hΓ:seen (selF sel Γ.length) Γ sel Γc) (hl:Nat.ble sel.length Γc'.length=true) (h:GL P m ops Q rest (gput fr d (ren (selF sel Γ.length) g)) (setAll Γ sel (Γc'.map (Ob.ren (selF sel Γ.length))))) :
  GL P m ops Q (⟨d,.call ⟨.value (.func f),args.toArray,tys⟩,ty,pos,af,none⟩::rest) fr Γ:=GL.callF sel hc.h ha hok hΓ hl h
theorem GL.callRc {f:FuncId} [hf:Fun P f] {sel:List Nat} {args:List Operand} {tys:Array TypeId} {gs:List GV} {Γc:List Ob} {R:GV→List Ob→Prop} (hc:Cal sel (GC P f gs Γc R)) (ha:GLeL (args.map (gev fr)) (renL (selF sel Γ.length) gs)) (hok:okSel sel Γ.length=true)
  (hΓ:seen (selF sel Γ.length) Γ sel Γc) (h:∀ g Γ',R g Γ'→sel.length≤Γ'.length∧GL P m ops Q rest (gput fr d (ren (selF sel Γ.length) g)) (setAll Γ sel (Γ'.map (Ob.ren (selF sel Γ.length))))) :
  GL P m ops Q (⟨d,.call ⟨.value (.func f),args.toArray,tys⟩,ty,pos,af,none⟩::rest) fr Γ:=GL.call' sel hc.h ha hok hΓ h
theorem GL.callVc {f:FuncId} [hf:Fun P f] {sel:List Nat} {x:Operand} {first cap:List GV} {args:List Operand} {tys:Array TypeId} {gs:List GV} {Γc:List Ob} {R:GV→List Ob→Prop} (hc:Cal sel (GC P f gs Γc R)) (hx:gev fr x=.fn (.func f) first cap) (ha:first++args.map (gev fr)++cap=renL (selF sel Γ.length) gs) (hok:okSel sel Γ.length=true)
  (hΓ:seen (selF sel Γ.length) Γ sel Γc) (h:∀ g Γ',R g Γ'→sel.length≤Γ'.length∧GL P m ops Q rest (gput fr d (ren (selF sel Γ.length) g)) (setAll Γ sel (Γ'.map (Ob.ren (selF sel Γ.length))))) :
  GL P m ops Q (⟨d,.call ⟨.value x,args.toArray,tys⟩,ty,pos,af,none⟩::rest) fr Γ:=GL.callV sel hc.h hx ha hok hΓ h
theorem GL.callPc {f:FuncId} [hf:Fun P f] {sel:List Nat} {x:Operand} {args:List Operand} {tys:Array TypeId} {gs:List GV} {Γc:List Ob} {R:GV→List Ob→Prop} (hc:Cal sel (GC P f gs Γc R)) (hx:gev fr x=.v (.func (.func f) #[] #[])) (ha:args.map (gev fr)=renL (selF sel Γ.length) gs) (hok:okSel sel Γ.length=true)
  (hΓ:seen (selF sel Γ.length) Γ sel Γc) (h:∀ g Γ',R g Γ'→sel.length≤Γ'.length∧GL P m ops Q rest (gput fr d (ren (selF sel Γ.length) g)) (setAll Γ sel (Γ'.map (Ob.ren (selF sel Γ.length))))) :
  GL P m ops Q (⟨d,.call ⟨.value x,args.toArray,tys⟩,ty,pos,af,none⟩::rest) fr Γ:=GL.callP sel hc.h hx ha hok hΓ h
end
theorem w_stay {A:Prop} (s:A:=by repeat (first | exact StayL.n | (apply StayL.w;(· decide +kernel)) | (apply StayL.y;(· first | (apply YQ.t;(· exact rfl);(· exact rfl);(· (first | (apply K.ld;first | exact YG.ldL rfl rfl (by first | rfl | assumption) | exact YG.ldLN rfl rfl rfl rfl | exact YG.ldV rfl rfl (by first | rfl | assumption) (by first | rfl | assumption) (by first | rfl | assumption) | exact YG.ldH rfl rfl (by first | rfl | assumption) (by first | rfl | assumption) (by first | rfl | assumption)) | (apply K.idx;first | exact YG.idxV rfl rfl rfl (by first | rfl | assumption) (by omega) | exact YG.idxH 0 rfl rfl rfl (by first | omega | assumption | (simp only [List.length_append,List.length_cons,List.length_nil];omega)) | exact YG.idxH 1 rfl rfl rfl (by first | omega | assumption | (simp only [List.length_append,List.length_cons,List.length_nil];omega)) | exact YG.idxH 2 rfl rfl rfl (by first | omega | assumption | (simp only [List.length_append,List.length_cons,List.length_nil];omega)) | exact YG.idxH 3 rfl rfl rfl (by first | omega | assumption | (simp only [List.length_append,List.length_cons,List.length_nil];omega)) | exact YG.idxH 4 rfl rfl rfl (by first | omega | assumption | (simp only [List.length_append,List.length_cons,List.length_nil];omega)) | exact YG.idxH 5 rfl rfl rfl (by first | omega | assumption | (simp only [List.length_append,List.length_cons,List.length_nil];omega)) | exact YG.idxH 6 rfl rfl rfl (by first | omega | assumption | (simp only [List.length_append,List.length_cons,List.length_nil];omega))) | (apply K.fld;first | exact YG.fldV rfl rfl (by first | rfl | assumption) | exact YG.fldH rfl rfl (by first | rfl | assumption)) | exact YG.sldata 1 rfl rfl (by first | rfl | assumption) (by first | rfl | assumption) | exact YG.mv | exact YG.asg | (apply K.bin;first | exact YG.go rfl | exact YG.add1 rfl rfl (by omega) | exact YG.eqNil rfl rfl | exact YG.nePtr rfl rfl | exact YG.eqS rfl rfl | exact YG.neS rfl rfl | exact YG.cat rfl rfl (by omega) | exact YG.cat rfl rfl (by simp only [List.length_append,List.length_cons,List.length_nil];omega) | exact YG.addN rfl rfl (by omega) | exact YG.add rfl rfl (by omega) | exact YG.sub rfl rfl (by omega) | exact YG.mul rfl rfl (by omega) | exact YG.subU rfl rfl (by omega) | exact YG.quo rfl rfl (by omega) | exact YG.rem rfl rfl (by omega) | exact YG.low32 rfl rfl) | (apply K.fld;first | exact YG.fldL rfl | exact YG.fldB rfl) | (apply K.ld;first | exact YG.ldB rfl (by first | rfl | assumption) | exact YG.ldBN rfl rfl rfl) | (apply K.len;first | exact YG.lenSl rfl | exact YG.lenS rfl | exact YG.lenN rfl | exact YG.lenV rfl | exact YG.lenA rfl) | (apply K.nck;first | exact YG.nilL rfl | exact YG.nilB rfl) | (apply K.pick;first | exact YG.pkT rfl (by first | rfl | assumption) | exact YG.pkF rfl (by first | rfl | assumption)) | (apply K.idx;first | exact YG.idxSl rfl rfl (by assumption) | exact YG.idxSlC rfl rfl (by assumption) rfl | exact YG.idxSlC rfl rfl (by assumption) (by omega) | exact YG.idxA rfl rfl (by omega)) | exact YG.ext rfl rfl | exact YG.go rfl | (apply K.slc;first | exact YG.sub2 rfl rfl rfl (by omega) | exact YG.sub1 rfl rfl (by omega) | exact YG.sub0 rfl rfl (by omega) | exact YG.subSlC 1 rfl rfl rfl (by first | rfl | assumption)) | exact YG.idxS rfl rfl (by assumption) | exact YG.idxSC rfl rfl (by assumption) rfl | (apply K.mkfn;first | exact YG.mkfn0 | exact YG.mkfn) | exact YG.build rfl | exact YG.neg rfl (by omega) | exact YG.fldG rfl rfl | exact YG.cvt rfl (by first | rfl | exact IntWalk.i64_in _ (by omega) | exact IntWalk.u8_in _ (by omega) | assumption) | exact YG.str rfl (by first | rfl | assumption)))) | (apply YQ.t;(· exact rfl);(· apply gG_t;(· exact rfl);(· first | exact rfl | assumption));(· (first | (apply K.ld;first | exact YG.ldL rfl rfl (by first | rfl | assumption) | exact YG.ldLN rfl rfl rfl rfl | exact YG.ldV rfl rfl (by first | rfl | assumption) (by first | rfl | assumption) (by first | rfl | assumption) | exact YG.ldH rfl rfl (by first | rfl | assumption) (by first | rfl | assumption) (by first | rfl | assumption)) | (apply K.idx;first | exact YG.idxV rfl rfl rfl (by first | rfl | assumption) (by omega) | exact YG.idxH 0 rfl rfl rfl (by first | omega | assumption | (simp only [List.length_append,List.length_cons,List.length_nil];omega)) | exact YG.idxH 1 rfl rfl rfl (by first | omega | assumption | (simp only [List.length_append,List.length_cons,List.length_nil];omega)) | exact YG.idxH 2 rfl rfl rfl (by first | omega | assumption | (simp only [List.length_append,List.length_cons,List.length_nil];omega)) | exact YG.idxH 3 rfl rfl rfl (by first | omega | assumption | (simp only [List.length_append,List.length_cons,List.length_nil];omega)) | exact YG.idxH 4 rfl rfl rfl (by first | omega | assumption | (simp only [List.length_append,List.length_cons,List.length_nil];omega)) | exact YG.idxH 5 rfl rfl rfl (by first | omega | assumption | (simp only [List.length_append,List.length_cons,List.length_nil];omega)) | exact YG.idxH 6 rfl rfl rfl (by first | omega | assumption | (simp only [List.length_append,List.length_cons,List.length_nil];omega))) | (apply K.fld;first | exact YG.fldV rfl rfl (by first | rfl | assumption) | exact YG.fldH rfl rfl (by first | rfl | assumption)) | exact YG.sldata 1 rfl rfl (by first | rfl | assumption) (by first | rfl | assumption) | exact YG.mv | exact YG.asg | (apply K.bin;first | exact YG.go rfl | exact YG.add1 rfl rfl (by omega) | exact YG.eqNil rfl rfl | exact YG.nePtr rfl rfl | exact YG.eqS rfl rfl | exact YG.neS rfl rfl | exact YG.cat rfl rfl (by omega) | exact YG.cat rfl rfl (by simp only [List.length_append,List.length_cons,List.length_nil];omega) | exact YG.addN rfl rfl (by omega) | exact YG.add rfl rfl (by omega) | exact YG.sub rfl rfl (by omega) | exact YG.mul rfl rfl (by omega) | exact YG.subU rfl rfl (by omega) | exact YG.quo rfl rfl (by omega) | exact YG.rem rfl rfl (by omega) | exact YG.low32 rfl rfl) | (apply K.fld;first | exact YG.fldL rfl | exact YG.fldB rfl) | (apply K.ld;first | exact YG.ldB rfl (by first | rfl | assumption) | exact YG.ldBN rfl rfl rfl) | (apply K.len;first | exact YG.lenSl rfl | exact YG.lenS rfl | exact YG.lenN rfl | exact YG.lenV rfl | exact YG.lenA rfl) | (apply K.nck;first | exact YG.nilL rfl | exact YG.nilB rfl) | (apply K.pick;first | exact YG.pkT rfl (by first | rfl | assumption) | exact YG.pkF rfl (by first | rfl | assumption)) | (apply K.idx;first | exact YG.idxSl rfl rfl (by assumption) | exact YG.idxSlC rfl rfl (by assumption) rfl | exact YG.idxSlC rfl rfl (by assumption) (by omega) | exact YG.idxA rfl rfl (by omega)) | exact YG.ext rfl rfl | exact YG.go rfl | (apply K.slc;first | exact YG.sub2 rfl rfl rfl (by omega) | exact YG.sub1 rfl rfl (by omega) | exact YG.sub0 rfl rfl (by omega) | exact YG.subSlC 1 rfl rfl rfl (by first | rfl | assumption)) | exact YG.idxS rfl rfl (by assumption) | exact YG.idxSC rfl rfl (by assumption) rfl | (apply K.mkfn;first | exact YG.mkfn0 | exact YG.mkfn) | exact YG.build rfl | exact YG.neg rfl (by omega) | exact YG.fldG rfl rfl | exact YG.cvt rfl (by first | rfl | exact IntWalk.i64_in _ (by omega) | exact IntWalk.u8_in _ (by omega) | assumption) | exact YG.str rfl (by first | rfl | assumption)))) | (apply YQ.f;(· exact rfl);(· apply gG_f;(· exact rfl);(· first | exact rfl | assumption))))))):A:=s
theorem w_glen {A:Prop} (s:A:=by (try simp only [gput,gupd,gev,gnth,List.length_cons,List.length_nil,Nat.reduceAdd,ren,renL,selF]);rfl):A:=s
theorem w_gob {A:Prop} (s:A:=by (try simp only [List.cons_append,List.nil_append,oset,gsetR,gupd,gnth,gev,setAll,List.map_cons,List.map_nil,Ob.ren,ren,renL,selF]);rfl):A:=s
theorem w_gnf {A:Prop} (s:A:=by simp only [gput,gupd,gev,gnth];rfl):A:=s
theorem w_gls {A:Prop} (s:A:=by first | exact GLeL.refl | (repeat (first | exact GLeL.nil | exact GLe.refl | exact GLe.nil | exact GLe.any | exact GLe.fn0 | refine GLeL.cons ?_ ?_ | refine GLe.agg ?_))):A:=s
theorem w_seen {A:Prop} (s:A:=by first | exact trivial | exact ⟨rfl,trivial⟩ | exact ⟨rfl,rfl,trivial⟩ | exact ⟨rfl,rfl,rfl,trivial⟩ | exact ⟨rfl,rfl,rfl,rfl,rfl,trivial⟩):A:=s
theorem w_grun {A B:Prop} (h:B) (s:Hid B→A:=by intro hQ;(repeat (first | ((first | (apply GL.q;(· (first | exact YG.mv | exact YG.asg | (apply K.bin;first | exact YG.go rfl | exact YG.add1 rfl rfl (by omega) | exact YG.eqNil rfl rfl | exact YG.nePtr rfl rfl | exact YG.eqS rfl rfl | exact YG.neS rfl rfl | exact YG.cat rfl rfl (by omega) | exact YG.cat rfl rfl (by simp only [List.length_append,List.length_cons,List.length_nil];omega) | exact YG.addN rfl rfl (by omega) | exact YG.add rfl rfl (by omega) | exact YG.sub rfl rfl (by omega) | exact YG.mul rfl rfl (by omega) | exact YG.subU rfl rfl (by omega) | exact YG.quo rfl rfl (by omega) | exact YG.rem rfl rfl (by omega) | exact YG.low32 rfl rfl) | (apply K.fld;first | exact YG.fldL rfl | exact YG.fldB rfl | exact YG.fldV rfl rfl (by first | rfl | assumption) | exact YG.fldH rfl rfl (by first | rfl | assumption)) | (apply K.ld;first | exact YG.ldL rfl rfl (by first | rfl | assumption) | exact YG.ldB rfl (by first | rfl | assumption) | exact YG.ldLN rfl rfl rfl rfl | exact YG.ldBN rfl rfl rfl | exact YG.ldV rfl rfl (by first | rfl | assumption) (by first | rfl | assumption) (by first | rfl | assumption) | exact YG.ldH rfl rfl (by first | rfl | assumption) (by first | rfl | assumption) (by first | rfl | assumption)) | (apply K.len;first | exact YG.lenSl rfl | exact YG.lenS rfl | exact YG.lenN rfl | exact YG.lenV rfl | exact YG.lenA rfl) | (apply K.nck;first | exact YG.nilL rfl | exact YG.nilB rfl) | (apply K.pick;first | exact YG.pkT rfl (by first | rfl | assumption) | exact YG.pkF rfl (by first | rfl | assumption)) | (apply K.idx;first | exact YG.idxSl rfl rfl (by assumption) | exact YG.idxSlC rfl rfl (by assumption) rfl | exact YG.idxSlC rfl rfl (by assumption) (by omega) | exact YG.idxA rfl rfl (by omega) | exact YG.idxV rfl rfl rfl (by first | rfl | assumption) (by omega) | exact YG.idxH 0 rfl rfl rfl (by first | omega | assumption | (simp only [List.length_append,List.length_cons,List.length_nil];omega)) | exact YG.idxH 1 rfl rfl rfl (by first | omega | assumption | (simp only [List.length_append,List.length_cons,List.length_nil];omega)) | exact YG.idxH 2 rfl rfl rfl (by first | omega | assumption | (simp only [List.length_append,List.length_cons,List.length_nil];omega)) | exact YG.idxH 3 rfl rfl rfl (by first | omega | assumption | (simp only [List.length_append,List.length_cons,List.length_nil];omega)) | exact YG.idxH 4 rfl rfl rfl (by first | omega | assumption | (simp only [List.length_append,List.length_cons,List.length_nil];omega)) | exact YG.idxH 5 rfl rfl rfl (by first | omega | assumption | (simp only [List.length_append,List.length_cons,List.length_nil];omega)) | exact YG.idxH 6 rfl rfl rfl (by first | omega | assumption | (simp only [List.length_append,List.length_cons,List.length_nil];omega))) | exact YG.ext rfl rfl | exact YG.go rfl | (apply K.slc;first | exact YG.sub2 rfl rfl rfl (by omega) | exact YG.sub1 rfl rfl (by omega) | exact YG.sub0 rfl rfl (by omega) | exact YG.subSlC 1 rfl rfl rfl (by first | rfl | assumption)) | exact YG.idxS rfl rfl (by assumption) | exact YG.idxSC rfl rfl (by assumption) rfl | (apply K.mkfn;first | exact YG.mkfn0 | exact YG.mkfn) | exact YG.build rfl | exact YG.neg rfl (by omega) | exact YG.fldG rfl rfl | exact YG.cvt rfl (by first | rfl | exact IntWalk.i64_in _ (by omega) | exact IntWalk.u8_in _ (by omega) | assumption) | exact YG.str rfl (by first | rfl | assumption)))) | refine GL.nil ?_ | refine gthn_n ?_ | refine GW.seq ?_ | refine GW.region ?_ | refine GW.skip ?_ | refine ginb_n ?_ | refine GW.block ?_ | (apply GL.gt;(· exact rfl);(· first | exact rfl | assumption)) | (apply GL.gf;(· exact rfl);(· first | exact rfl | assumption)) | (apply GL.gu;(· exact rfl)) | (apply GC1;(· exact rfl);(· first | exact rfl | assumption)) | (apply GC0;(· exact rfl);(· first | exact rfl | assumption)));try refine GN w_gnf ?_) | ((first | (apply GL.alloc;(· simp only [vs1,Value.cells,List.map_cons,List.map_nil];rfl)) | (apply GL.box;(· exact rfl)) | (apply GL.st;(· exact rfl);(· exact rfl);(· exact rfl);(· exact rfl);(· exact rfl);(· exact rfl)));refine GNM w_glen w_gob ?_)));exact hQ.1):A:=s ⟨h⟩
theorem w_gorun {A B:Prop} (h:B) (s:Hid B→A:=by intro hQ;(repeat ((first | (apply OPm;(· exact rfl)) | (apply OPa;(· exact rfl)) | (apply OP;(· exact rfl);(· intro Γ;(first | (apply K.bin;first | exact YG.go rfl | exact YG.add1 rfl rfl (by omega) | exact YG.eqNil rfl rfl | exact YG.nePtr rfl rfl | exact YG.eqS rfl rfl | exact YG.neS rfl rfl | exact YG.cat rfl rfl (by omega) | exact YG.cat rfl rfl (by simp only [List.length_append,List.length_cons,List.length_nil];omega) | exact YG.addN rfl rfl (by omega) | exact YG.add rfl rfl (by omega) | exact YG.sub rfl rfl (by omega) | exact YG.mul rfl rfl (by omega) | exact YG.subU rfl rfl (by omega) | exact YG.quo rfl rfl (by omega) | exact YG.rem rfl rfl (by omega) | exact YG.low32 rfl rfl) | (apply K.fld;first | exact YG.fldL rfl | exact YG.fldB rfl) | (apply K.ld;first | exact YG.ldB rfl (by first | rfl | assumption) | exact YG.ldBN rfl rfl rfl) | (apply K.len;first | exact YG.lenSl rfl | exact YG.lenS rfl | exact YG.lenN rfl | exact YG.lenV rfl | exact YG.lenA rfl) | (apply K.nck;first | exact YG.nilL rfl | exact YG.nilB rfl) | (apply K.idx;first | exact YG.idxSl rfl rfl (by assumption) | exact YG.idxSlC rfl rfl (by assumption) rfl | exact YG.idxSlC rfl rfl (by assumption) (by omega) | exact YG.idxA rfl rfl (by omega)) | exact YG.ext rfl rfl | exact YG.go rfl | (apply K.slc;first | exact YG.sub2 rfl rfl rfl (by omega) | exact YG.sub1 rfl rfl (by omega) | exact YG.sub0 rfl rfl (by omega) | exact YG.subSlC 1 rfl rfl rfl (by first | rfl | assumption)) | exact YG.idxS rfl rfl (by assumption) | exact YG.idxSC rfl rfl (by assumption) rfl | (apply K.mkfn;first | exact YG.mkfn0 | exact YG.mkfn) | exact YG.build rfl | exact YG.neg rfl (by omega) | exact YG.fldG rfl rfl | exact YG.cvt rfl (by first | rfl | exact IntWalk.i64_in _ (by omega) | exact IntWalk.u8_in _ (by omega) | assumption) | exact YG.str rfl (by first | rfl | assumption)))) | (apply OPkT;(· exact rfl);(· exact rfl);(· first | exact rfl | assumption)) | (apply OPkF;(· exact rfl);(· exact rfl);(· first | exact rfl | assumption)) | (apply OPmt;(· exact rfl);(· exact rfl);(· first | exact rfl | assumption)) | (apply OQ;(· exact rfl);(· (first | (apply K.ld;first | exact YG.ldL rfl rfl (by first | rfl | assumption) | exact YG.ldLN rfl rfl rfl rfl | exact YG.ldV rfl rfl (by first | rfl | assumption) (by first | rfl | assumption) (by first | rfl | assumption) | exact YG.ldH rfl rfl (by first | rfl | assumption) (by first | rfl | assumption) (by first | rfl | assumption)) | (apply K.idx;first | exact YG.idxV rfl rfl rfl (by first | rfl | assumption) (by omega) | exact YG.idxH 0 rfl rfl rfl (by first | omega | assumption | (simp only [List.length_append,List.length_cons,List.length_nil];omega)) | exact YG.idxH 1 rfl rfl rfl (by first | omega | assumption | (simp only [List.length_append,List.length_cons,List.length_nil];omega)) | exact YG.idxH 2 rfl rfl rfl (by first | omega | assumption | (simp only [List.length_append,List.length_cons,List.length_nil];omega)) | exact YG.idxH 3 rfl rfl rfl (by first | omega | assumption | (simp only [List.length_append,List.length_cons,List.length_nil];omega)) | exact YG.idxH 4 rfl rfl rfl (by first | omega | assumption | (simp only [List.length_append,List.length_cons,List.length_nil];omega)) | exact YG.idxH 5 rfl rfl rfl (by first | omega | assumption | (simp only [List.length_append,List.length_cons,List.length_nil];omega)) | exact YG.idxH 6 rfl rfl rfl (by first | omega | assumption | (simp only [List.length_append,List.length_cons,List.length_nil];omega))) | (apply K.fld;first | exact YG.fldV rfl rfl (by first | rfl | assumption) | exact YG.fldH rfl rfl (by first | rfl | assumption)) | exact YG.sldata 1 rfl rfl (by first | rfl | assumption) (by first | rfl | assumption)))) | (apply OPt;(· exact rfl);(· exact rfl);(· first | exact rfl | assumption);(· intro Γ;(first | exact YG.mv | exact YG.asg | (apply K.bin;first | exact YG.go rfl | exact YG.add1 rfl rfl (by omega) | exact YG.eqNil rfl rfl | exact YG.nePtr rfl rfl | exact YG.eqS rfl rfl | exact YG.neS rfl rfl | exact YG.cat rfl rfl (by omega) | exact YG.cat rfl rfl (by simp only [List.length_append,List.length_cons,List.length_nil];omega) | exact YG.addN rfl rfl (by omega) | exact YG.add rfl rfl (by omega) | exact YG.sub rfl rfl (by omega) | exact YG.mul rfl rfl (by omega) | exact YG.subU rfl rfl (by omega) | exact YG.quo rfl rfl (by omega) | exact YG.rem rfl rfl (by omega) | exact YG.low32 rfl rfl) | (apply K.fld;first | exact YG.fldL rfl | exact YG.fldB rfl) | (apply K.ld;first | exact YG.ldB rfl (by first | rfl | assumption) | exact YG.ldBN rfl rfl rfl) | (apply K.len;first | exact YG.lenSl rfl | exact YG.lenS rfl | exact YG.lenN rfl | exact YG.lenV rfl | exact YG.lenA rfl) | (apply K.nck;first | exact YG.nilL rfl | exact YG.nilB rfl) | (apply K.pick;first | exact YG.pkT rfl (by first | rfl | assumption) | exact YG.pkF rfl (by first | rfl | assumption)) | (apply K.idx;first | exact YG.idxSl rfl rfl (by assumption) | exact YG.idxSlC rfl rfl (by assumption) rfl | exact YG.idxSlC rfl rfl (by assumption) (by omega) | exact YG.idxA rfl rfl (by omega)) | exact YG.ext rfl rfl | exact YG.go rfl | (apply K.slc;first | exact YG.sub2 rfl rfl rfl (by omega) | exact YG.sub1 rfl rfl (by omega) | exact YG.sub0 rfl rfl (by omega) | exact YG.subSlC 1 rfl rfl rfl (by first | rfl | assumption)) | exact YG.idxS rfl rfl (by assumption) | exact YG.idxSC rfl rfl (by assumption) rfl | (apply K.mkfn;first | exact YG.mkfn0 | exact YG.mkfn) | exact YG.build rfl | exact YG.neg rfl (by omega) | exact YG.fldG rfl rfl | exact YG.cvt rfl (by first | rfl | exact IntWalk.i64_in _ (by omega) | exact IntWalk.u8_in _ (by omega) | assumption) | exact YG.str rfl (by first | rfl | assumption)))) | (apply OQt;(· exact rfl);(· exact rfl);(· first | exact rfl | assumption);(· (first | (apply K.ld;first | exact YG.ldL rfl rfl (by first | rfl | assumption) | exact YG.ldLN rfl rfl rfl rfl | exact YG.ldV rfl rfl (by first | rfl | assumption) (by first | rfl | assumption) (by first | rfl | assumption) | exact YG.ldH rfl rfl (by first | rfl | assumption) (by first | rfl | assumption) (by first | rfl | assumption)) | (apply K.idx;first | exact YG.idxV rfl rfl rfl (by first | rfl | assumption) (by omega) | exact YG.idxH 0 rfl rfl rfl (by first | omega | assumption | (simp only [List.length_append,List.length_cons,List.length_nil];omega)) | exact YG.idxH 1 rfl rfl rfl (by first | omega | assumption | (simp only [List.length_append,List.length_cons,List.length_nil];omega)) | exact YG.idxH 2 rfl rfl rfl (by first | omega | assumption | (simp only [List.length_append,List.length_cons,List.length_nil];omega)) | exact YG.idxH 3 rfl rfl rfl (by first | omega | assumption | (simp only [List.length_append,List.length_cons,List.length_nil];omega)) | exact YG.idxH 4 rfl rfl rfl (by first | omega | assumption | (simp only [List.length_append,List.length_cons,List.length_nil];omega)) | exact YG.idxH 5 rfl rfl rfl (by first | omega | assumption | (simp only [List.length_append,List.length_cons,List.length_nil];omega)) | exact YG.idxH 6 rfl rfl rfl (by first | omega | assumption | (simp only [List.length_append,List.length_cons,List.length_nil];omega))) | (apply K.fld;first | exact YG.fldV rfl rfl (by first | rfl | assumption) | exact YG.fldH rfl rfl (by first | rfl | assumption)) | exact YG.sldata 1 rfl rfl (by first | rfl | assumption) (by first | rfl | assumption)))) | (apply ONf;(· exact rfl);(· exact rfl);(· first | exact rfl | assumption)) | (apply ONu;(· exact rfl);(· exact rfl)) | (apply OAf;(· exact rfl);(· exact rfl);(· first | exact rfl | assumption);(· exact w_stay)) | (apply OAu;(· exact rfl);(· exact rfl);(· exact w_stay)) | refine GO.nil ?_ | (apply OA;(· exact rfl);(· exact rfl);apply GL.alloc;(· simp only [vs1,Value.cells,List.map_cons,List.map_nil];rfl);refine GL.nil (gthn_n (OAfter.mk w_stay ?_));refine GONM w_glen w_gob ?_) | (apply OA;(· exact rfl);(· exact rfl);apply GL.st;(· exact rfl);(· exact rfl);(· exact rfl);(· exact rfl);(· exact rfl);(· exact rfl);refine GL.nil (gthn_n (OAfter.mk w_stay ?_));refine GONM w_glen w_gob ?_) | (apply OA;(· exact rfl);(· exact rfl);apply GL.box;(· exact rfl);refine GL.nil (gthn_n (OAfter.mk w_stay ?_));refine GONM w_glen w_gob ?_));try refine GON w_gnf ?_));exact hQ.1):A:=s ⟨h⟩
theorem w_grunf {A B:Prop} (h:B) (s:Hid B→A:=by intro hQ;(repeat (first | ((first | (apply GL.q;(· (first | exact YG.mv | exact YG.asg | (apply K.bin;first | exact YG.go rfl | exact YG.add1 rfl rfl (by omega) | exact YG.eqNil rfl rfl | exact YG.nePtr rfl rfl | exact YG.eqS rfl rfl | exact YG.neS rfl rfl | exact YG.cat rfl rfl (by omega) | exact YG.cat rfl rfl (by simp only [List.length_append,List.length_cons,List.length_nil];omega) | exact YG.addN rfl rfl (by omega) | exact YG.add rfl rfl (by omega) | exact YG.sub rfl rfl (by omega) | exact YG.mul rfl rfl (by omega) | exact YG.subU rfl rfl (by omega) | exact YG.quo rfl rfl (by omega) | exact YG.rem rfl rfl (by omega) | exact YG.low32 rfl rfl) | (apply K.fld;first | exact YG.fldL rfl | exact YG.fldB rfl | exact YG.fldV rfl rfl (by first | rfl | assumption) | exact YG.fldH rfl rfl (by first | rfl | assumption)) | (apply K.ld;first | exact YG.ldL rfl rfl (by first | rfl | assumption) | exact YG.ldB rfl (by first | rfl | assumption) | exact YG.ldLN rfl rfl rfl rfl | exact YG.ldBN rfl rfl rfl | exact YG.ldV rfl rfl (by first | rfl | assumption) (by first | rfl | assumption) (by first | rfl | assumption) | exact YG.ldH rfl rfl (by first | rfl | assumption) (by first | rfl | assumption) (by first | rfl | assumption)) | (apply K.len;first | exact YG.lenSl rfl | exact YG.lenS rfl | exact YG.lenN rfl | exact YG.lenV rfl | exact YG.lenA rfl) | (apply K.nck;first | exact YG.nilL rfl | exact YG.nilB rfl) | (apply K.pick;first | exact YG.pkT rfl (by first | rfl | assumption) | exact YG.pkF rfl (by first | rfl | assumption)) | (apply K.idx;first | exact YG.idxSl rfl rfl (by assumption) | exact YG.idxSlC rfl rfl (by assumption) rfl | exact YG.idxSlC rfl rfl (by assumption) (by omega) | exact YG.idxA rfl rfl (by omega) | exact YG.idxV rfl rfl rfl (by first | rfl | assumption) (by omega) | exact YG.idxH 0 rfl rfl rfl (by first | omega | assumption | (simp only [List.length_append,List.length_cons,List.length_nil];omega)) | exact YG.idxH 1 rfl rfl rfl (by first | omega | assumption | (simp only [List.length_append,List.length_cons,List.length_nil];omega)) | exact YG.idxH 2 rfl rfl rfl (by first | omega | assumption | (simp only [List.length_append,List.length_cons,List.length_nil];omega)) | exact YG.idxH 3 rfl rfl rfl (by first | omega | assumption | (simp only [List.length_append,List.length_cons,List.length_nil];omega)) | exact YG.idxH 4 rfl rfl rfl (by first | omega | assumption | (simp only [List.length_append,List.length_cons,List.length_nil];omega)) | exact YG.idxH 5 rfl rfl rfl (by first | omega | assumption | (simp only [List.length_append,List.length_cons,List.length_nil];omega)) | exact YG.idxH 6 rfl rfl rfl (by first | omega | assumption | (simp only [List.length_append,List.length_cons,List.length_nil];omega))) | exact YG.ext rfl rfl | exact YG.go rfl | (apply K.slc;first | exact YG.sub2 rfl rfl rfl (by omega) | exact YG.sub1 rfl rfl (by omega) | exact YG.sub0 rfl rfl (by omega) | exact YG.subSlC 1 rfl rfl rfl (by first | rfl | assumption)) | exact YG.idxS rfl rfl (by assumption) | exact YG.idxSC rfl rfl (by assumption) rfl | fail | exact YG.build rfl | exact YG.neg rfl (by omega) | exact YG.fldG rfl rfl | exact YG.cvt rfl (by first | rfl | exact IntWalk.i64_in _ (by omega) | exact IntWalk.u8_in _ (by omega) | assumption) | exact YG.str rfl (by first | rfl | assumption)))) | refine GL.nil ?_ | refine gthn_n ?_ | refine GW.seq ?_ | refine GW.region ?_ | refine GW.skip ?_ | refine ginb_n ?_ | refine GW.block ?_ | (apply GL.gt;(· exact rfl);(· first | exact rfl | assumption)) | (apply GL.gf;(· exact rfl);(· first | exact rfl | assumption)) | (apply GL.gu;(· exact rfl)) | (apply GC1;(· exact rfl);(· first | exact rfl | assumption)) | (apply GC0;(· exact rfl);(· first | exact rfl | assumption)));try refine GN w_gnf ?_) | ((first | (apply GL.alloc;(· simp only [vs1,Value.cells,List.map_cons,List.map_nil];rfl)) | (apply GL.box;(· exact rfl)) | (apply GL.st;(· exact rfl);(· exact rfl);(· exact rfl);(· exact rfl);(· exact rfl);(· exact rfl)));refine GNM w_glen w_gob ?_)));exact hQ.1):A:=s ⟨h⟩
theorem w_grunx {A B:Prop} (h:B) (s:Hid B→A:=by intro hQ;(repeat (first | ((first | (apply GL.q;(· (first | exact YG.mv | exact YG.asg | (apply K.bin;first | exact YG.go rfl | exact YG.add1 rfl rfl (by omega) | exact YG.eqNil rfl rfl | exact YG.nePtr rfl rfl | exact YG.eqS rfl rfl | exact YG.neS rfl rfl | exact YG.cat rfl rfl (by omega) | exact YG.cat rfl rfl (by simp only [List.length_append,List.length_cons,List.length_nil];omega) | exact YG.addN rfl rfl (by omega) | exact YG.add rfl rfl (by omega) | exact YG.sub rfl rfl (by omega) | exact YG.mul rfl rfl (by omega) | exact YG.subU rfl rfl (by omega) | exact YG.quo rfl rfl (by omega) | exact YG.rem rfl rfl (by omega) | exact YG.low32 rfl rfl) | (apply K.fld;first | exact YG.fldL rfl | exact YG.fldB rfl | exact YG.fldV rfl rfl (by first | rfl | assumption) | exact YG.fldH rfl rfl (by first | rfl | assumption)) | (apply K.ld;first | exact YG.ldL rfl rfl (by first | rfl | assumption) | exact YG.ldB rfl (by first | rfl | assumption) | exact YG.ldLN rfl rfl rfl rfl | exact YG.ldBN rfl rfl rfl | exact YG.ldV rfl rfl (by first | rfl | assumption) (by first | rfl | assumption) (by first | rfl | assumption) | exact YG.ldH rfl rfl (by first | rfl | assumption) (by first | rfl | assumption) (by first | rfl | assumption)) | (apply K.len;first | exact YG.lenSl rfl | exact YG.lenS rfl | exact YG.lenN rfl | exact YG.lenV rfl | exact YG.lenA rfl) | (apply K.nck;first | exact YG.nilL rfl | exact YG.nilB rfl) | (apply K.pick;first | exact YG.pkT rfl (by first | rfl | assumption) | exact YG.pkF rfl (by first | rfl | assumption)) | (apply K.idx;first | exact YG.idxSl rfl rfl (by assumption) | exact YG.idxSlC rfl rfl (by assumption) rfl | exact YG.idxSlC rfl rfl (by assumption) (by omega) | exact YG.idxA rfl rfl (by omega) | exact YG.idxV rfl rfl rfl (by first | rfl | assumption) (by omega) | exact YG.idxH 0 rfl rfl rfl (by first | omega | assumption | (simp only [List.length_append,List.length_cons,List.length_nil];omega)) | exact YG.idxH 1 rfl rfl rfl (by first | omega | assumption | (simp only [List.length_append,List.length_cons,List.length_nil];omega)) | exact YG.idxH 2 rfl rfl rfl (by first | omega | assumption | (simp only [List.length_append,List.length_cons,List.length_nil];omega)) | exact YG.idxH 3 rfl rfl rfl (by first | omega | assumption | (simp only [List.length_append,List.length_cons,List.length_nil];omega)) | exact YG.idxH 4 rfl rfl rfl (by first | omega | assumption | (simp only [List.length_append,List.length_cons,List.length_nil];omega)) | exact YG.idxH 5 rfl rfl rfl (by first | omega | assumption | (simp only [List.length_append,List.length_cons,List.length_nil];omega)) | exact YG.idxH 6 rfl rfl rfl (by first | omega | assumption | (simp only [List.length_append,List.length_cons,List.length_nil];omega))) | exact YG.ext rfl rfl | exact YG.go rfl | (apply K.slc;first | exact YG.sub2 rfl rfl rfl (by omega) | exact YG.sub1 rfl rfl (by omega) | exact YG.sub0 rfl rfl (by omega) | exact YG.subSlC 1 rfl rfl rfl (by first | rfl | assumption)) | exact YG.idxS rfl rfl (by assumption) | exact YG.idxSC rfl rfl (by assumption) rfl | (apply K.mkfn;first | exact YG.mkfn0 | exact YG.mkfn) | exact YG.build rfl | exact YG.neg rfl (by omega) | exact YG.fldG rfl rfl | exact YG.cvt rfl (by first | rfl | exact IntWalk.i64_in _ (by omega) | exact IntWalk.u8_in _ (by omega) | assumption) | exact YG.str rfl (by first | rfl | assumption)))) | refine GL.nil ?_ | refine gthn_n ?_ | refine GW.seq ?_ | refine GW.region ?_ | refine GW.skip ?_ | refine ginb_n ?_ | (apply GL.gt;(· exact rfl);(· first | exact rfl | assumption)) | (apply GL.gf;(· exact rfl);(· first | exact rfl | assumption)) | (apply GL.gu;(· exact rfl)) | (apply GC1;(· exact rfl);(· first | exact rfl | assumption)) | (apply GC0;(· exact rfl);(· first | exact rfl | assumption)));try refine GN w_gnf ?_) | ((first | (apply GL.alloc;(· simp only [vs1,Value.cells,List.map_cons,List.map_nil];rfl)) | (apply GL.box;(· exact rfl)) | (apply GL.st;(· exact rfl);(· exact rfl);(· exact rfl);(· exact rfl);(· exact rfl);(· exact rfl)));refine GNM w_glen w_gob ?_)));exact hQ.1):A:=s ⟨h⟩
theorem w_gnm {A B:Prop} (h:B) (s:Hid B→A:=by intro hQ;(try refine GN w_gnf ?_);exact hQ.1):A:=s ⟨h⟩
theorem w_gno {A B:Prop} (h:B) (s:Hid B→A:=by intro hQ;(try refine GON w_gnf ?_);exact hQ.1):A:=s ⟨h⟩
theorem w_gnmb {A B:Prop} (h:B) (s:Hid B→A:=by intro hQ;(refine GNM w_glen w_gob ?_);exact hQ.1):A:=s ⟨h⟩
theorem w_gnob {A B:Prop} (h:B) (s:Hid B→A:=by intro hQ;(refine GONM w_glen w_gob ?_);exact hQ.1):A:=s ⟨h⟩
theorem w_gexit {A B:Prop} (h:B) (s:Hid B→A:=by intro hQ;((repeat (first | refine GW.exit ?_ | refine gthn_x ?_ | refine ginb_xe ?_ | refine ginb_xn rfl ?_ | refine ginb_n ?_ | refine gthn_n ?_)));exact hQ.1):A:=s ⟨h⟩
theorem w_gret {A B:Prop} (h:B) (s:Hid B→A:=by intro hQ;((repeat (first | refine GW.ret ?_ | refine gthn_r ?_ | refine ginb_r ?_ | refine gthn_n ?_ | refine ginb_n ?_));refine gbp1 rfl (by first | exact .inr rfl | exact .inl rfl) rfl (Nat.le_refl _) rfl rfl ?_);exact hQ.1):A:=s ⟨h⟩
theorem w_gret0 {A B:Prop} (h:B) (s:Hid B→A:=by intro hQ;((repeat (first | refine GW.ret ?_ | refine gthn_r ?_ | refine ginb_r ?_ | refine gthn_n ?_ | refine ginb_n ?_));refine gbp0 rfl (by first | exact .inr rfl | exact .inl rfl) (Nat.le_refl _) rfl ?_);exact hQ.1):A:=s ⟨h⟩
theorem w_gret2 {A B:Prop} (h:B) (s:Hid B→A:=by intro hQ;((repeat (first | refine GW.ret ?_ | refine gthn_r ?_ | refine ginb_r ?_ | refine gthn_n ?_ | refine ginb_n ?_));refine gbp2 rfl (by first | exact .inr rfl | exact .inl rfl) rfl rfl (Nat.le_refl _) rfl rfl ?_);exact hQ.1):A:=s ⟨h⟩
theorem w_gret3 {A B:Prop} (h:B) (s:Hid B→A:=by intro hQ;((repeat (first | refine GW.ret ?_ | refine gthn_r ?_ | refine ginb_r ?_ | refine gthn_n ?_ | refine ginb_n ?_));refine gbp3 rfl (by first | exact .inr rfl | exact .inl rfl) rfl rfl rfl (Nat.le_refl _) rfl rfl ?_);exact hQ.1):A:=s ⟨h⟩
theorem w_gret3l {A B:Prop} (h:B) (s:Hid B→A:=by intro hQ;((repeat (first | refine GW.ret ?_ | refine gthn_r ?_ | refine ginb_r ?_ | refine gthn_n ?_ | refine ginb_n ?_));refine gbp_le ?_;refine gbp3 rfl (by first | exact .inr rfl | exact .inl rfl) rfl rfl rfl (Nat.le_refl _) rfl rfl ?_);exact hQ.1):A:=s ⟨h⟩
theorem w_gret2l {A B:Prop} (h:B) (s:Hid B→A:=by intro hQ;((repeat (first | refine GW.ret ?_ | refine gthn_r ?_ | refine ginb_r ?_ | refine gthn_n ?_ | refine ginb_n ?_));refine gbp_le ?_;refine gbp2 rfl (by first | exact .inr rfl | exact .inl rfl) rfl rfl (Nat.le_refl _) rfl rfl ?_);exact hQ.1):A:=s ⟨h⟩
theorem w_gretcl {A B:Prop} (h:B) (s:Hid B→A:=by intro hQ;((repeat (first | refine GW.ret ?_ | refine gthn_r ?_ | refine ginb_r ?_ | refine gthn_n ?_ | refine ginb_n ?_));refine gbp_le ?_;refine gbpC rfl (by first | exact .inr rfl | exact .inl rfl) rfl rfl rfl (Nat.le_refl _) rfl rfl ?_);exact hQ.1):A:=s ⟨h⟩
theorem w_gretct {A B:Prop} (h:B) (s:Hid B→A:=by intro hQ;((repeat (first | refine GW.ret ?_ | refine gthn_r ?_ | refine ginb_r ?_ | refine gthn_n ?_ | refine ginb_n ?_));refine gbpCT rfl (by first | exact .inr rfl | exact .inl rfl) rfl rfl rfl rfl (Nat.le_refl _) rfl rfl ?_);exact hQ.1):A:=s ⟨h⟩
theorem w_gretctt {A B:Prop} (h:B) (s:Hid B→A:=by intro hQ;((repeat (first | refine GW.ret ?_ | refine gthn_r ?_ | refine ginb_r ?_ | refine gthn_n ?_ | refine ginb_n ?_));refine gbpCTT rfl (by first | exact .inr rfl | exact .inl rfl) rfl rfl rfl rfl rfl (Nat.le_refl _) rfl rfl ?_);exact hQ.1):A:=s ⟨h⟩
theorem w_gretcttl {A B:Prop} (h:B) (s:Hid B→A:=by intro hQ;((repeat (first | refine GW.ret ?_ | refine gthn_r ?_ | refine ginb_r ?_ | refine gthn_n ?_ | refine ginb_n ?_));refine gbp_le ?_;refine gbpCTT rfl (by first | exact .inr rfl | exact .inl rfl) rfl rfl rfl rfl rfl (Nat.le_refl _) rfl rfl ?_);exact hQ.1):A:=s ⟨h⟩
theorem w_gretc {A B:Prop} (h:B) (s:Hid B→A:=by intro hQ;((repeat (first | refine GW.ret ?_ | refine gthn_r ?_ | refine ginb_r ?_ | refine gthn_n ?_ | refine ginb_n ?_));refine gbpC rfl (by first | exact .inr rfl | exact .inl rfl) rfl rfl rfl (Nat.le_refl _) rfl rfl ?_);exact hQ.1):A:=s ⟨h⟩
theorem w_gmk {A B:Prop} (h:B) (s:Hid B→A:=by intro hQ;(refine GL.mkF rfl rfl rfl rfl ?_;refine GNM w_glen w_gob ?_);exact hQ.1):A:=s ⟨h⟩
theorem w_gmkv {A B:Prop} (h:B) (s:Hid B→A:=by intro hQ;(refine GL.mkV rfl rfl rfl rfl ?_;refine GNM w_glen w_gob ?_);exact hQ.1):A:=s ⟨h⟩
theorem w_gpush {A B:Prop} (h:B) (s:Hid B→A:=by intro hQ;(refine GL.push rfl rfl rfl rfl rfl rfl rfl rfl (by first | rfl | assumption) ⟨⟨by omega,by omega⟩,by decide⟩ ?_;refine GNM w_glen w_gob ?_);exact hQ.1):A:=s ⟨h⟩
theorem w_gomkv {A B:Prop} (h:B) (s:Hid B→A:=by intro hQ;(refine OA rfl rfl (GL.mkV rfl rfl rfl rfl (GL.nil (gthn_n (OAfter.mk w_stay ?_))));refine GONM w_glen w_gob ?_);exact hQ.1):A:=s ⟨h⟩
theorem w_goapp {A B:Prop} (h:B) (s:Hid B→A:=by intro hQ;(refine OA rfl rfl (GL.app rfl rfl rfl (by first | rfl | assumption) rfl rfl (by refine ⟨?_,?_⟩;(· show _+1≤_;omega);(· show (_+1) * _≤_;omega)) (GL.nil (gthn_n (OAfter.mk w_stay ?_))));refine GONM w_glen w_gob ?_);exact hQ.1):A:=s ⟨h⟩
theorem w_gomk {A B:Prop} (h:B) (s:Hid B→A:=by intro hQ;(refine OA rfl rfl (GL.mkF rfl rfl rfl rfl (GL.nil (gthn_n (OAfter.mk w_stay ?_))));refine GONM w_glen w_gob ?_);exact hQ.1):A:=s ⟨h⟩
theorem w_gost {A B:Prop} (h:B) (s:Hid B→A:=by intro hQ;(refine OA rfl rfl (GL.st rfl rfl rfl rfl rfl rfl (GL.nil (gthn_n (OAfter.mk w_stay ?_))));refine GONM w_glen w_gob ?_);exact hQ.1):A:=s ⟨h⟩
theorem w_gounsafe {A B:Prop} (h:B) (s:Hid B→A:=by intro hQ;(refine OA rfl rfl (GL.unsafeStr 1 (by kernel_rfl) (by kernel_rfl) rfl rfl rfl rfl (by assumption) (by omega) (GL.nil (gthn_n (OAfter.mk w_stay ?_))));refine GONM w_glen w_gob ?_);exact hQ.1):A:=s ⟨h⟩
theorem w_gsth {A B:Prop} (h:B) (s:Hid B→A:=by intro hQ;(refine GL.stH rfl rfl rfl (by first | rfl | assumption) rfl rfl rfl rfl ?_;refine GNM w_glen w_gob ?_);exact hQ.1):A:=s ⟨h⟩
theorem w_gsthn {A B:Prop} (h:B) (s:Hid B→A:=by intro hQ;(refine GL.stHN rfl rfl (by first | rfl | assumption | omega) (by omega) rfl rfl rfl rfl ?_;refine GNM w_glen w_gob ?_);exact hQ.1):A:=s ⟨h⟩
theorem w_gsim {A B:Prop} (h:B) (s:Hid B→A:=by intro hQ;(refine ⟨by simp,?_⟩;refine GNM w_glen w_gob ?_);exact hQ.1):A:=s ⟨h⟩
theorem w_gaft {A B:Prop} (h:B) (s:Hid B→A:=by intro hQ;(refine GL.nil (gthn_n (OAfter.mk w_stay ?_));refine GONM w_glen w_gob ?_);exact hQ.1):A:=s ⟨h⟩
theorem w_enc {A:Prop} (s:A:=by simp only [encTs,encT_eq];rfl):A:=s
theorem w_gle {A:Prop} (s:A:=by first | exact GLeL.refl | exact GLe.refl | (repeat (first | exact GLeL.nil | exact GLe.refl | exact GLe.nil | exact GLe.any | exact GLe.fn0 | refine GLeL.cons ?_ ?_ | refine GLe.agg ?_ | refine GLe.tup ?_))):A:=s
theorem w_wkf {A:Prop} (s:A:=by repeat (first | exact WkF.nil | refine WkF.any ?_ | refine WkF.eq rfl ?_)):A:=s
theorem w_gcall {A B C:Prop} (sel:List Nat) (c:C) (h:B) (s:Cal sel C→Hid B→A:=by intro hC hQ;(refine GL.callFc hC w_gls rfl w_seen rfl ?_;refine GNM w_glen w_gob ?_);exact hQ.1):A:=s ⟨c⟩ ⟨h⟩
theorem w_gocall {A B C:Prop} (sel:List Nat) (c:C) (h:B) (s:Cal sel C→Hid B→A:=by intro hC hQ;(refine OA rfl rfl (GL.callFc hC w_gls rfl w_seen rfl (GL.nil (gthn_n (OAfter.mk w_stay ?_))));refine GONM w_glen w_gob ?_);exact hQ.1):A:=s ⟨c⟩ ⟨h⟩
theorem w_gotcall {A B C:Prop} (sel:List Nat) (c:C) (h:B) (s:Cal sel C→Hid B→A:=by intro hC hQ;(refine OAt rfl rfl rfl (by first | exact rfl | assumption) (GL.callFc hC w_gls rfl w_seen rfl (GL.nil (gthn_n (OAfter.mk w_stay ?_))));refine GONM w_glen w_gob ?_);exact hQ.1):A:=s ⟨c⟩ ⟨h⟩
theorem w_gcallp {A B C:Prop} (sel:List Nat) (c:C) (h:B) (s:Cal sel C→Hid B→A:=by intro hC hQ;(refine GL.callPc hC rfl rfl rfl w_seen ?_;rintro _ _ ⟨rfl,rfl⟩;refine ⟨by simp,?_⟩;refine GNM w_glen w_gob ?_);exact hQ.1):A:=s ⟨c⟩ ⟨h⟩
theorem w_gcallv {A B C:Prop} (sel:List Nat) (c:C) (h:B) (s:Cal sel C→Hid B→A:=by intro hC hQ;(refine GL.callVc hC rfl rfl rfl w_seen ?_;rintro _ _ ⟨rfl,rfl⟩;refine ⟨by simp,?_⟩;refine GNM w_glen w_gob ?_);exact hQ.1):A:=s ⟨c⟩ ⟨h⟩
theorem w_gocallp {A B C:Prop} (sel:List Nat) (c:C) (h:B) (s:Cal sel C→Hid B→A:=by intro hC hQ;(refine OA rfl rfl (GL.callPc hC rfl rfl rfl w_seen ?_);rintro _ _ ⟨rfl,rfl⟩;refine ⟨by simp,(GL.nil (gthn_n (OAfter.mk w_stay ?_)))⟩;refine GONM w_glen w_gob ?_);exact hQ.1):A:=s ⟨c⟩ ⟨h⟩
theorem w_gocallv {A B C:Prop} (sel:List Nat) (c:C) (h:B) (s:Cal sel C→Hid B→A:=by intro hC hQ;(refine OA rfl rfl (GL.callVc hC rfl rfl rfl w_seen ?_);rintro _ _ ⟨rfl,rfl⟩;refine ⟨by simp,(GL.nil (gthn_n (OAfter.mk w_stay ?_)))⟩;refine GONM w_glen w_gob ?_);exact hQ.1):A:=s ⟨c⟩ ⟨h⟩
theorem w_gcallr {A B C:Prop} (sel:List Nat) (c:C) (h:B) (s:Cal sel C→Hid B→A:=by intro hC hQ;(refine GL.callRc hC w_gls rfl w_seen ?_);exact hQ.1):A:=s ⟨c⟩ ⟨h⟩
end Go.Xg
namespace Go.Xw
instance:Fun Go.Proofs.Tryz.prog 13:=⟨by kernel_rfl⟩
instance:Fun Go.Proofs.Tryz.prog 14:=⟨by kernel_rfl⟩
instance:Fun Go.Proofs.Tryz.prog 15:=⟨by kernel_rfl⟩
instance:Fun Go.Proofs.Tryz.prog 16:=⟨by kernel_rfl⟩
instance:Fun Go.Proofs.Tryz.prog 17:=⟨by kernel_rfl⟩
instance:Fun Go.Proofs.Tryz.prog 18:=⟨by kernel_rfl⟩
instance:Fun Go.Proofs.Tryz.prog 19:=⟨by kernel_rfl⟩
instance:Fun Go.Proofs.Tryz.prog 20:=⟨by kernel_rfl⟩
instance:Fun Go.Proofs.Tryz.prog 21:=⟨by kernel_rfl⟩
instance:Fun Go.Proofs.Tryz.prog 35:=⟨by kernel_rfl⟩
instance:Fun Go.Proofs.Tryz.prog 36:=⟨by kernel_rfl⟩
instance:Fun Go.Proofs.Tryz.prog 37:=⟨by kernel_rfl⟩
instance:Fun Go.Proofs.Tryz.prog 38:=⟨by kernel_rfl⟩
instance:Fun Go.Proofs.Tryz.prog 39:=⟨by kernel_rfl⟩
instance:Fun Go.Proofs.Tryz.prog 40:=⟨by kernel_rfl⟩
instance:Fun Go.Proofs.Tryz.prog 41:=⟨by kernel_rfl⟩
instance:Fun Go.Proofs.Tryz.prog 43:=⟨by kernel_rfl⟩
instance:Fun Go.Proofs.Tryz.prog 44:=⟨by kernel_rfl⟩
instance:Fun Go.Proofs.Tryz.prog 45:=⟨by kernel_rfl⟩
instance:Fun Go.Proofs.Tryz.prog 46:=⟨by kernel_rfl⟩
instance:Fun Go.Proofs.Tryz.prog 47:=⟨by kernel_rfl⟩
instance:Fun Go.Proofs.Tryz.prog 48:=⟨by kernel_rfl⟩
instance:Fun Go.Proofs.Tryz.prog 49:=⟨by kernel_rfl⟩
instance:Fun Go.Proofs.Tryz.prog 50:=⟨by kernel_rfl⟩
instance:Fun Go.Proofs.Tryz.prog 51:=⟨by kernel_rfl⟩
instance:Fun Go.Proofs.Tryz.prog 52:=⟨by kernel_rfl⟩
instance:Fun Go.Proofs.Tryz.prog 53:=⟨by kernel_rfl⟩
instance:Fun Go.Proofs.Tryz.prog 54:=⟨by kernel_rfl⟩
instance:Fun Go.Proofs.Tryz.prog 55:=⟨by kernel_rfl⟩
instance:Fun Go.Proofs.Tryz.prog 56:=⟨by kernel_rfl⟩
instance:Fun Go.Proofs.Tryz.prog 57:=⟨by kernel_rfl⟩
instance:Fun Go.Proofs.Tryz.prog 58:=⟨by kernel_rfl⟩
instance:Fun Go.Proofs.Tryz.prog 59:=⟨by kernel_rfl⟩
instance:Fun Go.Proofs.Tryz.prog 62:=⟨by kernel_rfl⟩
instance:Fun Go.Proofs.Tryz.prog 63:=⟨by kernel_rfl⟩
instance:Fun Go.Proofs.Tryz.prog 65:=⟨by kernel_rfl⟩
instance:Fun Go.Proofs.Tryz.prog 73:=⟨by kernel_rfl⟩
instance:Fun Go.Proofs.Tryz.prog 74:=⟨by kernel_rfl⟩
instance:Fun Go.Proofs.Tryz.prog 75:=⟨by kernel_rfl⟩
instance:Fun Go.Proofs.Tryz.prog 76:=⟨by kernel_rfl⟩
instance:Fun Go.Proofs.Tryz.prog 77:=⟨by kernel_rfl⟩
instance:Fun Go.Proofs.Tryz.prog 78:=⟨by kernel_rfl⟩
instance:Fun Go.Proofs.Tryz.prog 79:=⟨by kernel_rfl⟩
instance:Fun Go.Proofs.Tryz.prog 80:=⟨by kernel_rfl⟩
instance:Fun Go.Proofs.Tryz.prog 81:=⟨by kernel_rfl⟩
instance:Fun Go.Proofs.Tryz.prog 82:=⟨by kernel_rfl⟩
instance:Fun Go.Proofs.Tryz.prog 83:=⟨by kernel_rfl⟩
instance:Fun Go.Proofs.Tryz.prog 84:=⟨by kernel_rfl⟩
instance:Fun Go.Proofs.Tryz.prog 85:=⟨by kernel_rfl⟩
instance:Fun Go.Proofs.Tryz.prog 86:=⟨by kernel_rfl⟩
instance:Fun Go.Proofs.Tryz.prog 87:=⟨by kernel_rfl⟩
instance:Fun Go.Proofs.Tryz.prog 88:=⟨by kernel_rfl⟩
instance:Fun Go.Proofs.Tryz.prog 89:=⟨by kernel_rfl⟩
instance:Fun Go.Proofs.Tryz.prog 90:=⟨by kernel_rfl⟩
instance:Fun Go.Proofs.Tryz.prog 91:=⟨by kernel_rfl⟩
instance:Fun Go.Proofs.Tryz.prog 92:=⟨by kernel_rfl⟩
instance:Fun Go.Proofs.Tryz.prog 93:=⟨by kernel_rfl⟩
instance:Fun Go.Proofs.Tryz.prog 94:=⟨by kernel_rfl⟩
instance:Fun Go.Proofs.Tryz.prog 95:=⟨by kernel_rfl⟩
instance:Fun Go.Proofs.Tryz.prog 96:=⟨by kernel_rfl⟩
instance:Fun Go.Proofs.Tryz.prog 97:=⟨by kernel_rfl⟩
instance:Fun Go.Proofs.Tryz.prog 98:=⟨by kernel_rfl⟩
instance:Fun Go.Proofs.Tryz.prog 99:=⟨by kernel_rfl⟩
instance:Fun Go.Proofs.Tryz.prog 100:=⟨by kernel_rfl⟩
instance:Fun Go.Proofs.Tryz.prog 101:=⟨by kernel_rfl⟩
instance:Fun Go.Proofs.Tryz.prog 102:=⟨by kernel_rfl⟩
instance:Fun Go.Proofs.Tryz.prog 103:=⟨by kernel_rfl⟩
instance:Fun Go.Proofs.Tryz.prog 104:=⟨by kernel_rfl⟩
instance:Fun Go.Proofs.Tryz.prog 105:=⟨by kernel_rfl⟩
instance:Fun Go.Proofs.Tryz.prog 108:=⟨by kernel_rfl⟩
instance:Fun Go.Proofs.Tryz.prog 109:=⟨by kernel_rfl⟩
instance:Fun Go.Proofs.Tryz.prog 110:=⟨by kernel_rfl⟩
instance:Fun Go.Proofs.Tryz.prog 112:=⟨by kernel_rfl⟩
instance:Fun Go.Proofs.Tryz.prog 113:=⟨by kernel_rfl⟩
instance:Fun Go.Proofs.Tryz.prog 121:=⟨by kernel_rfl⟩
instance:Fun Go.Proofs.Tryz.prog 122:=⟨by kernel_rfl⟩
instance:Fun Go.Proofs.Tryz.prog 123:=⟨by kernel_rfl⟩
instance:Fun Go.Proofs.Tryz.prog 124:=⟨by kernel_rfl⟩
instance:Fun Go.Proofs.Tryz.prog 125:=⟨by kernel_rfl⟩
instance:Fun Go.Proofs.Tryz.prog 127:=⟨by kernel_rfl⟩
instance:Fun Go.Proofs.Tryz.prog 128:=⟨by kernel_rfl⟩
instance:Fun Go.Proofs.Tryz.prog 129:=⟨by kernel_rfl⟩
instance:Fun Go.Proofs.Tryz.prog 130:=⟨by kernel_rfl⟩
instance:Fun Go.Proofs.Tryz.prog 131:=⟨by kernel_rfl⟩
instance:Fun Go.Proofs.Tryz.prog 132:=⟨by kernel_rfl⟩
instance:Fun Go.Proofs.Tryz.prog 133:=⟨by kernel_rfl⟩
instance:Fun Go.Proofs.Tryz.prog 134:=⟨by kernel_rfl⟩
instance:Fun Go.Proofs.Tryz.prog 135:=⟨by kernel_rfl⟩
instance:Fun Go.Proofs.Tryz.prog 136:=⟨by kernel_rfl⟩
instance:Fun Go.Proofs.Tryz.prog 137:=⟨by kernel_rfl⟩
instance:Fun Go.Proofs.Tryz.prog 138:=⟨by kernel_rfl⟩
instance:Fun Go.Proofs.Tryz.prog 139:=⟨by kernel_rfl⟩
instance:Fun Go.Proofs.Tryz.prog 140:=⟨by kernel_rfl⟩
instance:Fun Go.Proofs.Tryz.prog 141:=⟨by kernel_rfl⟩
instance:Fun Go.Proofs.Tryz.prog 142:=⟨by kernel_rfl⟩
instance:Fun Go.Proofs.Tryz.prog 143:=⟨by kernel_rfl⟩
instance:Fun Go.Proofs.Tryz.prog 144:=⟨by kernel_rfl⟩
instance:Fun Go.Proofs.Tryz.prog 145:=⟨by kernel_rfl⟩
instance:Fun Go.Proofs.Tryz.prog 146:=⟨by kernel_rfl⟩
instance:Fun Go.Proofs.Tryz.prog 147:=⟨by kernel_rfl⟩
instance:Fun Go.Proofs.Tryz.prog 149:=⟨by kernel_rfl⟩
instance:Fun Go.Proofs.Tryz.prog 150:=⟨by kernel_rfl⟩
instance:Fun Go.Proofs.Tryz.prog 151:=⟨by kernel_rfl⟩
instance:Fun Go.Proofs.Tryz.prog 152:=⟨by kernel_rfl⟩
instance:Fun Go.Proofs.Tryz.prog 155:=⟨by kernel_rfl⟩
instance:Fun Go.Proofs.Tryz.prog 157:=⟨by kernel_rfl⟩
instance:Fun Go.Proofs.Tryz.prog 160:=⟨by kernel_rfl⟩
instance:Fun Go.Proofs.Tryz.prog 161:=⟨by kernel_rfl⟩
instance:Fun Go.Proofs.Tryz.prog 165:=⟨by kernel_rfl⟩
instance:Fun Go.Proofs.Tryz.prog 166:=⟨by kernel_rfl⟩
instance:Fun Go.Proofs.Tryz.prog 167:=⟨by kernel_rfl⟩
instance:Fun Go.Proofs.Tryz.prog 168:=⟨by kernel_rfl⟩
instance:Fun Go.Proofs.Tryz.prog 169:=⟨by kernel_rfl⟩
instance:Fun Go.Proofs.Tryz.prog 170:=⟨by kernel_rfl⟩
instance:Fun Go.Proofs.Tryz.prog 171:=⟨by kernel_rfl⟩
instance:Fun Go.Proofs.Tryz.prog 173:=⟨by kernel_rfl⟩
instance:Fun Go.Proofs.Tryz.prog 174:=⟨by kernel_rfl⟩
instance:Fun Go.Proofs.Tryz.prog 175:=⟨by kernel_rfl⟩
instance:Fun Go.Proofs.Tryz.prog 176:=⟨by kernel_rfl⟩
instance:Fun Go.Proofs.Tryz.prog 177:=⟨by kernel_rfl⟩
instance:Fun Go.Proofs.Tryz.prog 178:=⟨by kernel_rfl⟩
instance:Fun Go.Proofs.Tryz.prog 179:=⟨by kernel_rfl⟩
instance:Fun Go.Proofs.Tryz.prog 180:=⟨by kernel_rfl⟩
instance:Fun Go.Proofs.Tryz.prog 181:=⟨by kernel_rfl⟩
instance:Fun Go.Proofs.Tryz.prog 182:=⟨by kernel_rfl⟩
instance:Fun Go.Proofs.Tryz.prog 183:=⟨by kernel_rfl⟩
instance:Fun Go.Proofs.Tryz.prog 184:=⟨by kernel_rfl⟩
instance:Fun Go.Proofs.Tryz.prog 185:=⟨by kernel_rfl⟩
instance:Fun Go.Proofs.Tryz.prog 186:=⟨by kernel_rfl⟩
instance:Fun Go.Proofs.Tryz.prog 187:=⟨by kernel_rfl⟩
instance:Fun Go.Proofs.Tryz.prog 191:=⟨by kernel_rfl⟩
instance:Fun Go.Proofs.Tryz.prog 193:=⟨by kernel_rfl⟩
instance:Fun Go.Proofs.Tryz.prog 196:=⟨by kernel_rfl⟩
instance:Fun Go.Proofs.Tryz.prog 197:=⟨by kernel_rfl⟩
instance:Fun Go.Proofs.Tryz.prog 200:=⟨by kernel_rfl⟩
instance:Fun Go.Proofs.Tryz.prog 205:=⟨by kernel_rfl⟩
instance:Fun Go.Proofs.Tryz.prog 206:=⟨by kernel_rfl⟩
instance:Fun Go.Proofs.Tryz.prog 207:=⟨by kernel_rfl⟩
instance:Fun Go.Proofs.Tryz.prog 208:=⟨by kernel_rfl⟩
instance:Fun Go.Proofs.Tryz.prog 209:=⟨by kernel_rfl⟩
instance:Fun Go.Proofs.Tryz.prog 210:=⟨by kernel_rfl⟩
instance:Fun Go.Proofs.Tryz.prog 211:=⟨by kernel_rfl⟩
instance:Fun Go.Proofs.Tryz.prog 212:=⟨by kernel_rfl⟩
instance:Fun Go.Proofs.Tryz.prog 213:=⟨by kernel_rfl⟩
instance:Fun Go.Proofs.Tryz.prog 214:=⟨by kernel_rfl⟩
instance:Fun Go.Proofs.Tryz.prog 215:=⟨by kernel_rfl⟩
instance:Fun Go.Proofs.Tryz.prog 216:=⟨by kernel_rfl⟩
instance:Fun Go.Proofs.Tryz.prog 217:=⟨by kernel_rfl⟩
instance:Fun Go.Proofs.Tryz.prog 221:=⟨by kernel_rfl⟩
instance:Fun Go.Proofs.Tryz.prog 227:=⟨by kernel_rfl⟩
instance:Fun Go.Proofs.Tryz.prog 228:=⟨by kernel_rfl⟩
instance:Fun Go.Proofs.Tryz.prog 233:=⟨by kernel_rfl⟩
instance:Fun Go.Proofs.Tryz.prog 234:=⟨by kernel_rfl⟩
instance:Fun Go.Proofs.Tryz.prog 236:=⟨by kernel_rfl⟩
instance:Fun Go.Proofs.Tryz.prog 237:=⟨by kernel_rfl⟩
instance:Fun Go.Proofs.Tryz.prog 240:=⟨by kernel_rfl⟩
instance:Ty Go.Proofs.Tryz.prog 3 false 1:=⟨by kernel_rfl,by kernel_rfl⟩
instance:Go.Xg.IntT Go.Proofs.Tryz.prog 3 .i64:=⟨by kernel_rfl⟩
instance:Go.Xg.IntT Go.Proofs.Tryz.prog 5 .u8:=⟨by kernel_rfl⟩
instance:Ty Go.Proofs.Tryz.prog 9 false 1:=⟨by kernel_rfl,by kernel_rfl⟩
instance:StrT Go.Proofs.Tryz.prog 9:=⟨by kernel_rfl⟩
instance:Ty Go.Proofs.Tryz.prog 22 false 1:=⟨by kernel_rfl,by kernel_rfl⟩
instance:Go.Xg.ByT Go.Proofs.Tryz.prog 22:=Go.Xg.ByT.mk' (e:=5) (by kernel_rfl) (by kernel_rfl)
instance:SlT Go.Proofs.Tryz.prog 22 5 1:=⟨by kernel_rfl,by kernel_rfl⟩
instance:SlZ Go.Proofs.Tryz.prog 22 5 1 [(.int .u8 (0))]:=⟨by kernel_rfl,by kernel_rfl,by kernel_rfl,rfl,by decide,fun _=>rfl⟩
instance:Ty Go.Proofs.Tryz.prog 23 false 1:=⟨by kernel_rfl,by kernel_rfl⟩
instance:SlT Go.Proofs.Tryz.prog 23 9 1:=⟨by kernel_rfl,by kernel_rfl⟩
instance:ApT Go.Proofs.Tryz.prog 23 9 1 16:=⟨by kernel_rfl⟩
instance:SlZ Go.Proofs.Tryz.prog 23 9 1 [(.string ⟨#[]⟩)]:=⟨by kernel_rfl,by kernel_rfl,by kernel_rfl,rfl,by decide,fun _=>rfl⟩
instance:Ty Go.Proofs.Tryz.prog 24 false 1:=⟨by kernel_rfl,by kernel_rfl⟩
instance:SlT Go.Proofs.Tryz.prog 24 87 2:=⟨by kernel_rfl,by kernel_rfl⟩
instance:ApT Go.Proofs.Tryz.prog 24 87 2 24:=⟨by kernel_rfl⟩
instance:SlZ Go.Proofs.Tryz.prog 24 87 2 [(.string ⟨#[]⟩),(.int .i64 (0))]:=⟨by kernel_rfl,by kernel_rfl,by kernel_rfl,rfl,by decide,fun h=>by cases h⟩
instance:Ty Go.Proofs.Tryz.prog 25 false 1:=⟨by kernel_rfl,by kernel_rfl⟩
instance:SlT Go.Proofs.Tryz.prog 25 89 3:=⟨by kernel_rfl,by kernel_rfl⟩
instance:ApT Go.Proofs.Tryz.prog 25 89 3 48:=⟨by kernel_rfl⟩
instance:SlZ Go.Proofs.Tryz.prog 25 89 3 [(.string ⟨#[]⟩),(.slice none 0 0),(.int .i64 (0))]:=⟨by kernel_rfl,by kernel_rfl,by kernel_rfl,rfl,by decide,fun h=>by cases h⟩
instance:Ty Go.Proofs.Tryz.prog 26 false 1:=⟨by kernel_rfl,by kernel_rfl⟩
instance:SlT Go.Proofs.Tryz.prog 26 61 5:=⟨by kernel_rfl,by kernel_rfl⟩
instance:ApT Go.Proofs.Tryz.prog 26 61 5 64:=⟨by kernel_rfl⟩
instance:SlZ Go.Proofs.Tryz.prog 26 61 5 [(.int .i64 (0)),(.int .i64 (0)),(.int .i64 (0)),(.string ⟨#[]⟩),(.slice none 0 0)]:=⟨by kernel_rfl,by kernel_rfl,by kernel_rfl,rfl,by decide,fun h=>by cases h⟩
instance:Ty Go.Proofs.Tryz.prog 28 true 4:=⟨by kernel_rfl,by kernel_rfl⟩
instance:Zer Go.Proofs.Tryz.prog 28 (.agg #[(.slice none 0 0),(.slice none 0 0),(.slice none 0 0),(.slice none 0 0)]):=⟨by kernel_rfl⟩
instance:Fld Go.Proofs.Tryz.prog 28 0 0 1 false:=⟨by kernel_rfl⟩
instance:Fld Go.Proofs.Tryz.prog 28 1 1 1 false:=⟨by kernel_rfl⟩
instance:Fld Go.Proofs.Tryz.prog 28 2 2 1 false:=⟨by kernel_rfl⟩
instance:Fld Go.Proofs.Tryz.prog 28 3 3 1 false:=⟨by kernel_rfl⟩
instance:StF Go.Proofs.Tryz.prog 28 [(0,1),(1,1),(2,1),(3,1)] [(.slice none 0 0),(.slice none 0 0),(.slice none 0 0),(.slice none 0 0)]:=⟨by kernel_rfl,by kernel_rfl⟩
instance:Ty Go.Proofs.Tryz.prog 35 false 1:=⟨by kernel_rfl,by kernel_rfl⟩
instance:SlT Go.Proofs.Tryz.prog 35 124 2:=⟨by kernel_rfl,by kernel_rfl⟩
instance:Ty Go.Proofs.Tryz.prog 36 false 1:=⟨by kernel_rfl,by kernel_rfl⟩
instance:SlT Go.Proofs.Tryz.prog 36 126 3:=⟨by kernel_rfl,by kernel_rfl⟩
instance:Ty Go.Proofs.Tryz.prog 37 false 1:=⟨by kernel_rfl,by kernel_rfl⟩
instance:SlT Go.Proofs.Tryz.prog 37 128 5:=⟨by kernel_rfl,by kernel_rfl⟩
instance:Ty Go.Proofs.Tryz.prog 39 true 4:=⟨by kernel_rfl,by kernel_rfl⟩
instance:Fld Go.Proofs.Tryz.prog 39 0 0 1 false:=⟨by kernel_rfl⟩
instance:Fld Go.Proofs.Tryz.prog 39 1 1 1 false:=⟨by kernel_rfl⟩
instance:Fld Go.Proofs.Tryz.prog 39 2 2 1 false:=⟨by kernel_rfl⟩
instance:Fld Go.Proofs.Tryz.prog 39 3 3 1 false:=⟨by kernel_rfl⟩
instance:Ty Go.Proofs.Tryz.prog 59 false 1:=⟨by kernel_rfl,by kernel_rfl⟩
instance:SlT Go.Proofs.Tryz.prog 59 3 1:=⟨by kernel_rfl,by kernel_rfl⟩
instance:ApT Go.Proofs.Tryz.prog 59 3 1 8:=⟨by kernel_rfl⟩
instance:SlZ Go.Proofs.Tryz.prog 59 3 1 [(.int .i64 (0))]:=⟨by kernel_rfl,by kernel_rfl,by kernel_rfl,rfl,by decide,fun _=>rfl⟩
instance:Ty Go.Proofs.Tryz.prog 61 true 5:=⟨by kernel_rfl,by kernel_rfl⟩
instance:Zer Go.Proofs.Tryz.prog 61 (.agg #[(.int .i64 (0)),(.int .i64 (0)),(.int .i64 (0)),(.string ⟨#[]⟩),(.slice none 0 0)]):=⟨by kernel_rfl⟩
instance:Fld Go.Proofs.Tryz.prog 61 0 0 1 false:=⟨by kernel_rfl⟩
instance:Fld Go.Proofs.Tryz.prog 61 1 1 1 false:=⟨by kernel_rfl⟩
instance:Fld Go.Proofs.Tryz.prog 61 2 2 1 false:=⟨by kernel_rfl⟩
instance:Fld Go.Proofs.Tryz.prog 61 3 3 1 false:=⟨by kernel_rfl⟩
instance:Fld Go.Proofs.Tryz.prog 61 4 4 1 false:=⟨by kernel_rfl⟩
instance:StF Go.Proofs.Tryz.prog 61 [(0,1),(1,1),(2,1),(3,1),(4,1)] [(.int .i64 (0)),(.int .i64 (0)),(.int .i64 (0)),(.string ⟨#[]⟩),(.slice none 0 0)]:=⟨by kernel_rfl,by kernel_rfl⟩
instance:Ty Go.Proofs.Tryz.prog 62 false 1:=⟨by kernel_rfl,by kernel_rfl⟩
instance:Ty Go.Proofs.Tryz.prog 65 false 1:=⟨by kernel_rfl,by kernel_rfl⟩
instance:Ty Go.Proofs.Tryz.prog 68 false 1:=⟨by kernel_rfl,by kernel_rfl⟩
instance:SlT Go.Proofs.Tryz.prog 68 70 6:=⟨by kernel_rfl,by kernel_rfl⟩
instance:ApT Go.Proofs.Tryz.prog 68 70 6 88:=⟨by kernel_rfl⟩
instance:SlZ Go.Proofs.Tryz.prog 68 70 6 [(.int .i64 (0)),(.int .i64 (0)),(.int .i64 (0)),(.string ⟨#[]⟩),(.slice none 0 0),(.slice none 0 0)]:=⟨by kernel_rfl,by kernel_rfl,by kernel_rfl,rfl,by decide,fun h=>by cases h⟩
instance:Ty Go.Proofs.Tryz.prog 70 true 6:=⟨by kernel_rfl,by kernel_rfl⟩
instance:Zer Go.Proofs.Tryz.prog 70 (.agg #[(.int .i64 (0)),(.int .i64 (0)),(.int .i64 (0)),(.string ⟨#[]⟩),(.slice none 0 0),(.slice none 0 0)]):=⟨by kernel_rfl⟩
instance:Fld Go.Proofs.Tryz.prog 70 0 0 5 true:=⟨by kernel_rfl⟩
instance:Fld Go.Proofs.Tryz.prog 70 1 5 1 false:=⟨by kernel_rfl⟩
instance:StF Go.Proofs.Tryz.prog 70 [(0,5),(5,1)] [(.int .i64 (0)),(.int .i64 (0)),(.int .i64 (0)),(.string ⟨#[]⟩),(.slice none 0 0),(.slice none 0 0)]:=⟨by kernel_rfl,by kernel_rfl⟩
instance:Ty Go.Proofs.Tryz.prog 72 false 1:=⟨by kernel_rfl,by kernel_rfl⟩
instance:SlT Go.Proofs.Tryz.prog 72 148 4:=⟨by kernel_rfl,by kernel_rfl⟩
instance:ApT Go.Proofs.Tryz.prog 72 148 4 40:=⟨by kernel_rfl⟩
instance:SlZ Go.Proofs.Tryz.prog 72 148 4 [(.int .i64 (0)),(.int .i64 (0)),(.string ⟨#[]⟩),(.int .i64 (0))]:=⟨by kernel_rfl,by kernel_rfl,by kernel_rfl,rfl,by decide,fun h=>by cases h⟩
instance:Ty Go.Proofs.Tryz.prog 87 true 2:=⟨by kernel_rfl,by kernel_rfl⟩
instance:Zer Go.Proofs.Tryz.prog 87 (.agg #[(.string ⟨#[]⟩),(.int .i64 (0))]):=⟨by kernel_rfl⟩
instance:Fld Go.Proofs.Tryz.prog 87 0 0 1 false:=⟨by kernel_rfl⟩
instance:Fld Go.Proofs.Tryz.prog 87 1 1 1 false:=⟨by kernel_rfl⟩
instance:StF Go.Proofs.Tryz.prog 87 [(0,1),(1,1)] [(.string ⟨#[]⟩),(.int .i64 (0))]:=⟨by kernel_rfl,by kernel_rfl⟩
instance:Ty Go.Proofs.Tryz.prog 89 true 3:=⟨by kernel_rfl,by kernel_rfl⟩
instance:Zer Go.Proofs.Tryz.prog 89 (.agg #[(.string ⟨#[]⟩),(.slice none 0 0),(.int .i64 (0))]):=⟨by kernel_rfl⟩
instance:Fld Go.Proofs.Tryz.prog 89 0 0 1 false:=⟨by kernel_rfl⟩
instance:Fld Go.Proofs.Tryz.prog 89 1 1 1 false:=⟨by kernel_rfl⟩
instance:Fld Go.Proofs.Tryz.prog 89 2 2 1 false:=⟨by kernel_rfl⟩
instance:StF Go.Proofs.Tryz.prog 89 [(0,1),(1,1),(2,1)] [(.string ⟨#[]⟩),(.slice none 0 0),(.int .i64 (0))]:=⟨by kernel_rfl,by kernel_rfl⟩
instance:Ty Go.Proofs.Tryz.prog 96 false 1:=⟨by kernel_rfl,by kernel_rfl⟩
instance:SlT Go.Proofs.Tryz.prog 96 62 1:=⟨by kernel_rfl,by kernel_rfl⟩
instance:ApT Go.Proofs.Tryz.prog 96 62 1 8:=⟨by kernel_rfl⟩
instance:SlZ Go.Proofs.Tryz.prog 96 62 1 [(.pointer none)]:=⟨by kernel_rfl,by kernel_rfl,by kernel_rfl,rfl,by decide,fun _=>rfl⟩
instance:Ty Go.Proofs.Tryz.prog 100 false 1:=⟨by kernel_rfl,by kernel_rfl⟩
instance:Fld Go.Proofs.Tryz.prog 111 0 0 5 true:=⟨by kernel_rfl⟩
instance:Fld Go.Proofs.Tryz.prog 111 1 5 1 false:=⟨by kernel_rfl⟩
instance:StF Go.Proofs.Tryz.prog 111 [(0,5),(5,1)] [(.int .i64 (0)),(.int .i64 (0)),(.int .i64 (0)),(.string ⟨#[]⟩),(.slice none 0 0),(.slice none 0 0)]:=⟨by kernel_rfl,by kernel_rfl⟩
instance:SlT Go.Proofs.Tryz.prog 117 23 1:=⟨by kernel_rfl,by kernel_rfl⟩
instance:SlZ Go.Proofs.Tryz.prog 117 23 1 [(.slice none 0 0)]:=⟨by kernel_rfl,by kernel_rfl,by kernel_rfl,rfl,by decide,fun _=>rfl⟩
instance:Fld Go.Proofs.Tryz.prog 121 0 0 1 false:=⟨by kernel_rfl⟩
instance:Fld Go.Proofs.Tryz.prog 121 1 1 1 false:=⟨by kernel_rfl⟩
instance:Fld Go.Proofs.Tryz.prog 121 2 2 1 false:=⟨by kernel_rfl⟩
instance:Fld Go.Proofs.Tryz.prog 121 3 3 1 false:=⟨by kernel_rfl⟩
instance:Fld Go.Proofs.Tryz.prog 121 4 4 1 false:=⟨by kernel_rfl⟩
instance:Fld Go.Proofs.Tryz.prog 121 5 5 1 false:=⟨by kernel_rfl⟩
instance:Fld Go.Proofs.Tryz.prog 121 6 6 4 true:=⟨by kernel_rfl⟩
instance:StF Go.Proofs.Tryz.prog 121 [(0,1),(1,1),(2,1),(3,1),(4,1),(5,1),(6,4)] [(.slice none 0 0),(.int .i64 (0)),(.int .i64 (0)),(.int .i64 (0)),(.int .i64 (0)),(.slice none 0 0),(.slice none 0 0),(.slice none 0 0),(.slice none 0 0),(.slice none 0 0)]:=⟨by kernel_rfl,by kernel_rfl⟩
instance:Ty Go.Proofs.Tryz.prog 124 true 2:=⟨by kernel_rfl,by kernel_rfl⟩
instance:Fld Go.Proofs.Tryz.prog 124 0 0 1 false:=⟨by kernel_rfl⟩
instance:Fld Go.Proofs.Tryz.prog 124 1 1 1 false:=⟨by kernel_rfl⟩
instance:Ty Go.Proofs.Tryz.prog 126 true 3:=⟨by kernel_rfl,by kernel_rfl⟩
instance:Fld Go.Proofs.Tryz.prog 126 0 0 1 false:=⟨by kernel_rfl⟩
instance:Fld Go.Proofs.Tryz.prog 126 1 1 1 false:=⟨by kernel_rfl⟩
instance:Fld Go.Proofs.Tryz.prog 126 2 2 1 false:=⟨by kernel_rfl⟩
instance:Ty Go.Proofs.Tryz.prog 128 true 5:=⟨by kernel_rfl,by kernel_rfl⟩
instance:Fld Go.Proofs.Tryz.prog 128 0 0 1 false:=⟨by kernel_rfl⟩
instance:Fld Go.Proofs.Tryz.prog 128 1 1 1 false:=⟨by kernel_rfl⟩
instance:Fld Go.Proofs.Tryz.prog 128 2 2 1 false:=⟨by kernel_rfl⟩
instance:Fld Go.Proofs.Tryz.prog 128 3 3 1 false:=⟨by kernel_rfl⟩
instance:Fld Go.Proofs.Tryz.prog 128 4 4 1 false:=⟨by kernel_rfl⟩
instance:Ty Go.Proofs.Tryz.prog 136 true 2:=⟨by kernel_rfl,by kernel_rfl⟩
instance:Zer Go.Proofs.Tryz.prog 136 (.agg #[.nilFunc,.nilFunc]):=⟨by kernel_rfl⟩
instance:Fld Go.Proofs.Tryz.prog 136 0 0 1 false:=⟨by kernel_rfl⟩
instance:Fld Go.Proofs.Tryz.prog 136 1 1 1 false:=⟨by kernel_rfl⟩
instance:StF Go.Proofs.Tryz.prog 136 [(0,1),(1,1)] [.nilFunc,.nilFunc]:=⟨by kernel_rfl,by kernel_rfl⟩
instance:Ty Go.Proofs.Tryz.prog 148 true 4:=⟨by kernel_rfl,by kernel_rfl⟩
instance:Zer Go.Proofs.Tryz.prog 148 (.agg #[(.int .i64 (0)),(.int .i64 (0)),(.string ⟨#[]⟩),(.int .i64 (0))]):=⟨by kernel_rfl⟩
instance:Fld Go.Proofs.Tryz.prog 148 0 0 1 false:=⟨by kernel_rfl⟩
instance:Fld Go.Proofs.Tryz.prog 148 1 1 1 false:=⟨by kernel_rfl⟩
instance:Fld Go.Proofs.Tryz.prog 148 2 2 1 false:=⟨by kernel_rfl⟩
instance:Fld Go.Proofs.Tryz.prog 148 3 3 1 false:=⟨by kernel_rfl⟩
instance:StF Go.Proofs.Tryz.prog 148 [(0,1),(1,1),(2,1),(3,1)] [(.int .i64 (0)),(.int .i64 (0)),(.string ⟨#[]⟩),(.int .i64 (0))]:=⟨by kernel_rfl,by kernel_rfl⟩
instance:Fld Go.Proofs.Tryz.prog 162 0 0 1 false:=⟨by kernel_rfl⟩
instance:Fld Go.Proofs.Tryz.prog 162 1 1 1 false:=⟨by kernel_rfl⟩
instance:Fld Go.Proofs.Tryz.prog 162 2 2 1 false:=⟨by kernel_rfl⟩
instance:Fld Go.Proofs.Tryz.prog 162 3 3 1 false:=⟨by kernel_rfl⟩
instance:Fld Go.Proofs.Tryz.prog 162 4 4 1 false:=⟨by kernel_rfl⟩
instance:StF Go.Proofs.Tryz.prog 162 [(0,1),(1,1),(2,1),(3,1),(4,1)] [(.slice none 0 0),(.int .i64 (0)),(.int .i64 (0)),(.int .i64 (0)),(.int .i64 (0))]:=⟨by kernel_rfl,by kernel_rfl⟩
instance:Ty Go.Proofs.Tryz.prog 170 false 1:=⟨by kernel_rfl,by kernel_rfl⟩
instance:Zer Go.Proofs.Tryz.prog 172 (.agg #[(.pointer none),(.slice none 0 0)]):=⟨by kernel_rfl⟩
instance:Fld Go.Proofs.Tryz.prog 172 0 0 1 false:=⟨by kernel_rfl⟩
instance:Fld Go.Proofs.Tryz.prog 172 1 1 1 false:=⟨by kernel_rfl⟩
end Go.Xw
set_option maxHeartbeats 1000000
namespace Go.Xg
open Go.RowKit Go.Xw Go.Proofs
open Go.Xp (Tok Nd T signOf one levels)
open Go.Sp
attribute [local irreducible] GW GL GO YG GC GA gthn ginb
def encTok (t:Tok):List GV:=[.v (ii t.kind),.v (ii t.n),.v (sv t.s),.v (ii t.at_)]
theorem SignOf_g (t:Tok):GF Tryz.prog 196 [.agg (encTok t)] [] (.v (sv (signOf t))) []:=by
 refine GC.enter Tryz.func196 Tryz.ntmps196 rfl (by simp only [gframe,grep,Nat.reduceSub];rfl) ?_
 refine w_grun ?_
 refine GW.cond rfl (fun h=>?_) (fun h=>?_)
 ·refine w_grun ?_
  refine w_gret ?_
  have h:t.kind≠3:=by simpa using h
  rw [signOf,if_neg h]
  exact ⟨rfl,rfl⟩
 ·refine w_grun ?_
  refine w_gret ?_
  have h:t.kind=3:=by simpa using h
  rw [signOf,if_pos h]
  exact ⟨rfl,rfl⟩
abbrev toks (l:List Tok):GV:=.sl 4 (l.map encTok)
abbrev encRS (p:RS):Ob:=.box 162 [toks p.l,.v (ii p.i),.v (ii p.e),.v (ii p.code),.v (ii p.at_)]
theorem row_tok {l:List Tok} {i:Nat} {t:Tok} (h:l[i]?=some t):(l.map encTok)[i]?=some (encTok t):=by rw [List.getElem?_map,h];rfl
theorem l08Place_g (p:RS) (hp:p.ok):GF Tryz.prog 161 [.loc 0 0] [encRS p] (.v (ii p.place)) [encRS p]:=by
 obtain ⟨hp1,hp2⟩:=hp
 cases ht:p.l[p.i]? with
 | some t =>
  have hr:=row_tok ht
  have hlt:p.i < p.l.length:=(List.getElem?_eq_some_iff.1 ht).1
  have hd:decide ((p.i:Int) < ((p.l.map encTok).length:Int))=true:=by simpa using hlt
  refine GC.enter Tryz.func161 Tryz.ntmps161 rfl (by simp only [gframe,grep,Nat.reduceSub];rfl) ?_
  refine w_grun ?_
  refine GW.draw (.q 0 (.q 1 (.q 2 (.q 3 (.q 4 (.q 5 (.q 6 (.q 7 (.q 8 (.q 9 .nil)))))))))) (by kernel_rfl) (by kernel_rfl) ?_
  refine w_gorun ?_
  refine w_grun ?_
  refine GW.draw (.q 0 (.q 1 (.q 2 (.q 3 (.q 4 (.q 5 (.q 6 (.q 7 (.q 8 (.q 9 (.q 10 (.q 11 .nil)))))))))))) (by kernel_rfl) (by kernel_rfl) ?_
  refine w_gorun ?_
  refine w_grun ?_
  refine w_gret ?_
  rw [RS.place,ht]
  exact ⟨rfl,rfl⟩
 | none =>
  have hlt:p.l.length≤p.i:=List.getElem?_eq_none_iff.1 ht
  have hd:decide ((p.i:Int) < ((p.l.map encTok).length:Int))=false:=by simpa using hlt
  refine GC.enter Tryz.func161 Tryz.ntmps161 rfl (by simp only [gframe,grep,Nat.reduceSub];rfl) ?_
  refine w_grun ?_
  refine GW.draw (.q 0 (.q 1 (.q 2 (.q 3 (.q 4 (.q 5 (.q 6 (.q 7 (.q 8 (.q 9 .nil)))))))))) (by kernel_rfl) (by kernel_rfl) ?_
  refine w_gorun ?_
  refine w_grun ?_
  refine w_gret ?_
  rw [RS.place,ht]
  exact ⟨rfl,rfl⟩
end Go.Xg
namespace Go.Xg
open Go.RowKit Go.Xw Go.Proofs
open Go.Xp (Tok Nd T signOf one levels)
open Go.Sp
attribute [local irreducible] GW GL GO YG GC GA gthn ginb
theorem l08Sign_g (p:RS) (k:Nat) (hp:p.ok) (hk:k≤1):GF Tryz.prog 157 [.loc 0 0,.v (ii k)] [encRS p] (.v (sv (p.sign k))) [encRS p]:=by
 obtain ⟨hp1,hp2⟩:=hp
 by_cases hc:p.code=0
 ·have hc':(p.code != 0)=false:=by simpa using hc
  cases ht:p.l[p.i+k]? with
  | some t =>
   have hr:=row_tok ht
   have hlt:p.i+k < p.l.length:=(List.getElem?_eq_some_iff.1 ht).1
   have hd:decide (((p.l.map encTok).length:Int)≤((p.i+k:Nat):Int))=false:=by simp;omega
   refine GC.enter Tryz.func157 Tryz.ntmps157 rfl (by simp only [gframe,grep,Nat.reduceSub];rfl) ?_
   refine w_grun ?_
   refine GW.draw (.q 0 (.q 1 (.q 2 (.q 3 (.q 4 (.q 5 (.q 6 (.q 7 (.q 8 (.q 9 (.q 10 (.q 11 (.q 12 (.q 13 (.q 14 (.q 15 (.q 16 (.q 17 (.q 18 .nil))))))))))))))))))) (by kernel_rfl) (by kernel_rfl) ?_
   refine w_gorun ?_
   refine w_grun ?_
   refine GW.draw (.q 0 (.q 1 (.q 2 (.q 3 (.q 4 (.q 5 (.q 6 (.q 7 (.q 8 (.q 9 (.q 10 (.q 11 (.a 12 (.q 13 .nil)))))))))))))) (by kernel_rfl) (by kernel_rfl) ?_
   refine w_gorun ?_
   refine w_gocall [] (SignOf_g t) ?_
   refine w_gorun ?_
   refine w_grun ?_
   refine w_gret ?_
   rw [RS.sign,if_pos hc,ht]
   exact ⟨rfl,rfl⟩
  | none =>
   have hlt:p.l.length≤p.i+k:=List.getElem?_eq_none_iff.1 ht
   have hd:decide (((p.l.map encTok).length:Int)≤((p.i+k:Nat):Int))=true:=by simp;omega
   refine GC.enter Tryz.func157 Tryz.ntmps157 rfl (by simp only [gframe,grep,Nat.reduceSub];rfl) ?_
   refine w_grun ?_
   refine GW.draw (.q 0 (.q 1 (.q 2 (.q 3 (.q 4 (.q 5 (.q 6 (.q 7 (.q 8 (.q 9 (.q 10 (.q 11 (.q 12 (.q 13 (.q 14 (.q 15 (.q 16 (.q 17 (.q 18 .nil))))))))))))))))))) (by kernel_rfl) (by kernel_rfl) ?_
   refine w_gorun ?_
   refine w_grun ?_
   refine w_gret ?_
   rw [RS.sign,if_pos hc,ht]
   exact ⟨rfl,rfl⟩
 ·have hc':(p.code != 0)=true:=by simpa using hc
  refine GC.enter Tryz.func157 Tryz.ntmps157 rfl (by simp only [gframe,grep,Nat.reduceSub];rfl) ?_
  refine w_grun ?_
  refine GW.draw (.q 0 (.q 1 (.q 2 (.q 3 (.q 4 (.q 5 (.q 6 (.q 7 (.q 8 (.q 9 (.q 10 (.q 11 (.q 12 (.q 13 (.q 14 (.q 15 (.q 16 (.q 17 (.q 18 .nil))))))))))))))))))) (by kernel_rfl) (by kernel_rfl) ?_
  refine w_gorun ?_
  refine w_grun ?_
  refine w_gret ?_
  rw [RS.sign,if_neg hc]
  exact ⟨rfl,rfl⟩
theorem l08Fail_g (p:RS) (c a:Int):GF Tryz.prog 160 [.loc 0 0,.v (ii c),.v (ii a)] [encRS p] (.tup []) [encRS (p.fail c a)]:=by
 refine GC.enter Tryz.func160 Tryz.ntmps160 rfl (by simp only [gframe,grep,Nat.reduceSub];rfl) ?_
 refine w_grun ?_
 refine GW.cond rfl (fun h=>?_) (fun h=>?_)
 ·refine w_grun ?_
  refine w_gret0 ?_
  have h:p.code=0:=by simpa using h
  rw [RS.fail,if_pos h]
  exact ⟨rfl,rfl⟩
 ·refine w_grun ?_
  refine w_gret0 ?_
  have h:¬ p.code=0:=by simpa using h
  rw [RS.fail,if_neg h]
  exact ⟨rfl,rfl⟩
theorem l08Must_g (p:RS) (s:Str) (hp:p.ok) (hs:s≠[]):GF Tryz.prog 181 [.loc 0 0,.v (sv s)] [encRS p] (.tup []) [encRS (p.must s)]:=by
 refine GC.enter Tryz.func181 Tryz.ntmps181 rfl (by simp only [gframe,grep,Nat.reduceSub];rfl) ?_
 refine w_grun ?_
 refine w_gcall [0] (l08Sign_g p 0 hp (by decide)) ?_
 by_cases h:p.sign 0=s
 ·have h':(!(p.sign 0==s))=false:=by simp [h]
  have hl:=(sign_lt h hs).1
  obtain ⟨hp1,hp2⟩:=hp
  refine w_grun ?_
  refine w_gret0 ?_
  rw [RS.must,if_pos h]
  exact ⟨rfl,rfl⟩
 ·have h':(!(p.sign 0==s))=true:=by simpa using h
  refine w_grun ?_
  refine w_gcall [0] (l08Place_g p hp) ?_
  refine w_grun ?_
  refine w_gcall [0] (l08Fail_g p 7 p.place) ?_
  refine w_grun ?_
  refine w_gret0 ?_
  rw [RS.must,if_neg h]
  exact ⟨rfl,rfl⟩
end Go.Xg
namespace Go.Xg
open Go.RowKit Go.Xw Go.Proofs
open Go.Xp (Tok Nd T signOf one levels)
open Go.Sp
attribute [local irreducible] GW GL GO YG GC GA gthn ginb
theorem l08Deep_g (p:RS) (d:Nat) (hp:p.ok):GF Tryz.prog 179 [.loc 0 0,.v (ii d)] [encRS p] (.tup []) [encRS (p.deep d)]:=by
 by_cases h:d > 60
 ·have h':decide ((60:Int) < (d:Int))=true:=by simp;omega
  refine GC.enter Tryz.func179 Tryz.ntmps179 rfl (by simp only [gframe,grep,Nat.reduceSub];rfl) ?_
  refine w_grun ?_
  refine w_gcall [0] (l08Place_g p hp) ?_
  refine w_grun ?_
  refine w_gcall [0] (l08Fail_g p 9 p.place) ?_
  refine w_grun ?_
  refine w_gret0 ?_
  rw [RS.deep,if_pos h]
  exact ⟨rfl,rfl⟩
 ·have h':decide ((60:Int) < (d:Int))=false:=by simp;omega
  refine GC.enter Tryz.func179 Tryz.ntmps179 rfl (by simp only [gframe,grep,Nat.reduceSub];rfl) ?_
  refine w_grun ?_
  refine w_gret0 ?_
  rw [RS.deep,if_neg h]
  exact ⟨rfl,rfl⟩
theorem l08Name_g (p:RS) (hp:p.ok):GF Tryz.prog 197 [.loc 0 0] [encRS p] (.v (sv p.name.1)) [encRS p.name.2]:=by
 obtain ⟨hp1,hp2⟩:=id hp
 by_cases hc:p.code=0
 ·have hc':(p.code != 0)=false:=by simpa using hc
  cases ht:p.l[p.i]? with
  | some t =>
   have hr:=row_tok ht
   have hlt:p.i < p.l.length:=(List.getElem?_eq_some_iff.1 ht).1
   have hd:decide (((p.l.map encTok).length:Int)≤(p.i:Int))=false:=by simp;omega
   by_cases hk:t.kind=2
   ·have hk':(t.kind != 2)=false:=by simpa using hk
    by_cases hs:t.s.length > 12
    ·have hs':decide ((12:Int) < (t.s.length:Int))=true:=by simp;omega
     refine GC.enter Tryz.func197 Tryz.ntmps197 rfl (by simp only [gframe,grep,Nat.reduceSub];rfl) ?_
     refine w_grun ?_
     refine GW.draw (.q 0 (.q 1 (.q 2 (.q 3 (.q 4 (.q 5 (.q 6 (.q 7 (.q 8 (.q 9 (.q 10 (.q 11 (.q 12 (.q 13 (.q 14 (.q 15 (.q 16 (.q 17 (.q 18 (.q 19 (.q 20 (.q 21 (.q 22 (.q 23 .nil)))))))))))))))))))))))) (by kernel_rfl) (by kernel_rfl) ?_
     refine w_gorun ?_
     refine w_grun ?_
     refine GW.draw (.q 0 (.q 1 (.q 2 (.q 3 (.q 4 (.q 5 (.q 6 (.q 7 (.q 8 (.q 9 (.a 10 (.a 11 .nil)))))))))))) (by kernel_rfl) (by kernel_rfl) ?_
     refine w_gorun ?_
     refine w_grun ?_
     refine w_gcall [0] (l08Fail_g p 8 t.at_) ?_
     refine w_grun ?_
     refine w_gret ?_
     rw [RS.name,if_pos hc,ht]
     simp only [if_pos hk,if_pos hs]
     exact ⟨rfl,rfl⟩
    ·have hs':decide ((12:Int) < (t.s.length:Int))=false:=by simp;omega
     refine GC.enter Tryz.func197 Tryz.ntmps197 rfl (by simp only [gframe,grep,Nat.reduceSub];rfl) ?_
     refine w_grun ?_
     refine GW.draw (.q 0 (.q 1 (.q 2 (.q 3 (.q 4 (.q 5 (.q 6 (.q 7 (.q 8 (.q 9 (.q 10 (.q 11 (.q 12 (.q 13 (.q 14 (.q 15 (.q 16 (.q 17 (.q 18 (.q 19 (.q 20 (.q 21 (.q 22 (.q 23 .nil)))))))))))))))))))))))) (by kernel_rfl) (by kernel_rfl) ?_
     refine w_gorun ?_
     refine w_grun ?_
     refine GW.draw (.q 0 (.q 1 (.q 2 (.q 3 (.q 4 (.q 5 (.q 6 (.q 7 (.q 8 (.q 9 (.a 10 (.a 11 .nil)))))))))))) (by kernel_rfl) (by kernel_rfl) ?_
     refine w_gorun ?_
     refine w_grun ?_
     refine w_gret ?_
     rw [RS.name,if_pos hc,ht]
     simp only [if_pos hk,if_neg hs]
     exact ⟨rfl,rfl⟩
   ·have hk':(t.kind != 2)=true:=by simpa using hk
    refine GC.enter Tryz.func197 Tryz.ntmps197 rfl (by simp only [gframe,grep,Nat.reduceSub];rfl) ?_
    refine w_grun ?_
    refine GW.draw (.q 0 (.q 1 (.q 2 (.q 3 (.q 4 (.q 5 (.q 6 (.q 7 (.q 8 (.q 9 (.q 10 (.q 11 (.q 12 (.q 13 (.q 14 (.q 15 (.q 16 (.q 17 (.q 18 (.q 19 (.q 20 (.q 21 (.q 22 (.q 23 .nil)))))))))))))))))))))))) (by kernel_rfl) (by kernel_rfl) ?_
    refine w_gorun ?_
    refine w_grun ?_
    refine w_gcall [0] (l08Place_g p hp) ?_
    refine w_grun ?_
    refine w_gcall [0] (l08Fail_g p 7 p.place) ?_
    refine w_grun ?_
    refine w_gret ?_
    rw [RS.name,if_pos hc,ht]
    simp only [if_neg hk]
    exact ⟨rfl,rfl⟩
  | none =>
   have hlt:p.l.length≤p.i:=List.getElem?_eq_none_iff.1 ht
   have hd:decide (((p.l.map encTok).length:Int)≤(p.i:Int))=true:=by simp;omega
   refine GC.enter Tryz.func197 Tryz.ntmps197 rfl (by simp only [gframe,grep,Nat.reduceSub];rfl) ?_
   refine w_grun ?_
   refine GW.draw (.q 0 (.q 1 (.q 2 (.q 3 (.q 4 (.q 5 (.q 6 (.q 7 (.q 8 (.q 9 (.q 10 (.q 11 (.q 12 (.q 13 (.q 14 (.q 15 (.q 16 (.q 17 (.q 18 (.q 19 (.q 20 (.q 21 (.q 22 (.q 23 .nil)))))))))))))))))))))))) (by kernel_rfl) (by kernel_rfl) ?_
   refine w_gorun ?_
   refine w_grun ?_
   refine w_gcall [0] (l08Place_g p hp) ?_
   refine w_grun ?_
   refine w_gcall [0] (l08Fail_g p 7 p.place) ?_
   refine w_grun ?_
   refine w_gret ?_
   rw [RS.name,if_pos hc,ht]
   exact ⟨rfl,rfl⟩
 ·have hc':(p.code != 0)=true:=by simpa using hc
  refine GC.enter Tryz.func197 Tryz.ntmps197 rfl (by simp only [gframe,grep,Nat.reduceSub];rfl) ?_
  refine w_grun ?_
  refine w_gret ?_
  rw [RS.name,if_neg hc]
  exact ⟨rfl,rfl⟩
abbrev ints (l:List Int):GV:=.sl 1 (l.map fun i=>[.v (ii i)])
abbrev strs (l:List Str):GV:=.sl 1 (l.map fun s=>[.v (sv s)])
mutual
def encT:T→List GV
 | .mk n k=>[.v (ii n.kind),.v (ii n.at_),.v (ii n.n),.v (sv n.s),ints n.kids,.sl 6 (encTs k)]
def encTs:List T→List (List GV)
 | []=>[]
 | t::r=>encT t::encTs r
end
abbrev cT (t:T):List GV:=[.v (ii t.n.kind),.v (ii t.n.at_),.v (ii t.n.n),.v (sv t.n.s),ints t.n.kids,.sl 6 (encTs t.kids)]
theorem encT_eq (t:T):encT t=cT t:=by
 cases t;rfl
theorem l08One_g (k a:Int) (s:Str) (l:List T) (rows:List (List GV)) (h:encTs l=rows):GF Tryz.prog 180 [.v (ii k),.v (ii a),.v (sv s),.sl 6 rows] [] (.agg (cT (one k a s l))) []:=by
 subst h
 refine GC.enter Tryz.func180 Tryz.ntmps180 rfl (by simp only [gframe,grep,Nat.reduceSub];rfl) ?_
 refine w_grun ?_
 refine w_gretcl ?_
 exact ⟨_,w_gle,rfl,rfl⟩
theorem l08Levels_g:GF Tryz.prog 93 [] [] (.sl 1 (levels.map fun l=>[strs l])) []:=by
 refine GC.enter Tryz.func93 Tryz.ntmps93 rfl (by simp only [gframe,grep,Nat.reduceSub];rfl) ?_
 refine w_grun ?_
 iterate 10 (refine w_gmk ?_)
 refine w_grun ?_
 refine w_gret ?_
 exact ⟨rfl,rfl⟩
theorem contains_succ {xs:List Str} {k:Nat} {s x:Str} (h:xs[k]?=some x):(xs.take (k+1)).contains s=((xs.take k).contains s || (x==s)):=by
 rw [List.take_add_one,h,List.contains_append]
 show (_ || [x].contains s)=_
 congr 1
 rw [List.contains_cons,List.contains_nil,Bool.or_false]
 exact Bool.beq_comm
theorem l07Has_g (xs:List Str) (s:Str) (hl:xs.length≤1099511627776):GF Tryz.prog 137 [strs xs,.v (sv s)] [] (.v (.bool (xs.contains s))) []:=by
 refine GC.enter Tryz.func137 Tryz.ntmps137 rfl (by simp only [gframe,grep,Nat.reduceSub];rfl) ?_
 refine w_grun ?_
 refine GW.range (xs.map fun s=>[GV.v (sv s)]).length (fun k fr Γ=>fr=[strs xs,.v (sv s),.any,.any,.any,.any,.any,strs xs,.v (ii ((xs.map fun s=>[GV.v (sv s)]).length:Int)),.v (ii k),.any,.any,.any,.any,.any,.any,.any]∧Γ=[]∧(xs.take k).contains s=false) ?_ (by simpa using hl) ?_ ?_ ?_
 ·exact ⟨_,_,Wk.frm w_wkf,rfl,rfl,rfl⟩
 ·rintro k _ _ ⟨rfl,rfl,_⟩;exact ⟨rfl,rfl,rfl⟩
 ·rintro k _ _ hlt ⟨rfl,rfl,hc⟩
  have hlt:k < xs.length:=by simpa using hlt
  have hx:xs[k]?=some xs[k]:=by simp [hlt]
  have hr:(xs.map fun s=>[GV.v (sv s)])[k]?=some [.v (sv xs[k])]:=by simp [hlt]
  have hcs:=contains_succ (s:=s) hx
  refine w_grun ?_
  refine GW.cond rfl (fun h2=>?_) (fun h2=>?_)
  ·refine w_grun ?_
   refine w_gret ?_
   have h3:xs[k]=s:=by simpa using h2
   have:s∈xs:=by rw [←h3];exact List.getElem_mem _
   refine ⟨?_,rfl⟩
   show GV.v (.bool true)=_
   rw [List.contains_iff_mem.2 this]
  ·refine w_grun ?_
   exact ⟨rfl,rfl,_,_,Wk.frm w_wkf,rfl,rfl,by rw [hcs,hc,h2];rfl⟩
 ·rintro _ _ ⟨rfl,rfl,hc⟩
  refine w_grun ?_
  refine w_gret ?_
  have hc:xs.contains s=false:=by simpa using hc
  refine ⟨?_,rfl⟩
  show GV.v (.bool false)=_
  rw [hc]
end Go.Xg
namespace Go.Xg
open Go.RowKit Go.Xw
section
variable {P:Program} {m:Nat} {Q:GPost} {fr:List GV} {Γ:List Ob}
theorem GW.joinX {c y:Code} {B:Nat} (K:List GV→List Ob→Prop) (h1:GW P m c (ginb B (gthn (GWk m K) Q)) fr Γ) (h2:∀ fr Γ,K fr Γ→GW P m y Q fr Γ):GW P m c (ginb B (gthn (GW P m y Q) Q)) fr Γ:=by
 refine h1.mono fun e fr Γ hq=>?_
 have key:∀ fr Γ,GWk m K fr Γ→GW P m y Q fr Γ:=fun fr Γ ⟨fr',Γ',hw,hk⟩=>GW.wk hw (h2 _ _ hk)
 cases e with
 | normal=>exact key _ _ hq
 | exit n =>
  simp only [ginb] at hq ⊢
  split
  ·rename_i hn;rw [if_pos hn] at hq;exact key _ _ hq
  ·rename_i hn;rw [if_neg hn] at hq;exact hq
 | _=>exact hq
end
section
variable {P:Program} {fn:Func} {m:Nat} {R:GV→List Ob→Prop} {fr:List GV} {Γ:List Ob} {e:Exit}
theorem gbpCT {n:Nat} {t u:Tmp} {T:TypeId} {k:Nat} [hT:Ty P T true k] {i:Nat} {E:TypeId} {cs:List GV} {g:GV} (hr:fn.results=#[.cell t T,.tmp u]) (he:e=.normal∨e=.ret) (hg:gnth fr t=.loc i 0) (hΓ:Γ[i]?=some (.box E cs)) (hk:cs.length=k) (hg2:gnth fr u=g)
  (hm:m≤n) (hl:oLt n (Γ.take n)=true) (hgl:(GV.tup [.agg cs,g]).lt n=true) (h:R (.tup [.agg cs,g]) (Γ.take n)):gbp P fn m R e fr Γ :=
 ⟨he,fun B K β w l hB hI hF=>by
  obtain ⟨b,vs,h1,h2,h3,h4⟩:=hI.ob i _ hΓ
  have hp:nth l t=.pointer (some ⟨b,0,none⟩):=by
   have:=hF.nth t
   rw [hg] at this
   generalize nth l t=v at this
   cases this with
   | loc _ _ b' hb'=>rw [h1] at hb';cases hb';rfl
  have hp':l.toArray.getD t undef=.pointer (some ⟨b,0,none⟩):=by rw [nth_eq,hp]
  have hld:=run_loadVarN (P:=P) (w:=w) (t:=T) (b:=b) (o:=0) (vs:=vs) (k:=k) (by rw [h3.1,hk]) (fun j v hj=>by
   rw [Nat.zero_add,cell_of_row w b j _ E (0,0) h2];simpa using hj)
  have hp'':l[t]?.getD undef=.pointer (some ⟨b,0,none⟩):=by simpa using hp'
  refine ⟨.tuple #[.agg vs.toArray,nth l u],K,resβ (below n) β,.tup [.agg cs,g],Γ.take n,?_,hI.cut (by omega) hl,?_,h⟩
  ·rw [←nth_eq l u];simp [results,hr,hp'',asAddr,hld]
  ·refine Rel.res ?_ hgl
   subst hg2
   have hc:RelL K β [.agg vs.toArray,nth l u] [.agg cs,gnth fr u]:=.cons (.agg vs cs h3.1 h3.2) (.cons (hF.nth u) .nil)
   exact .tup _ _ hc.1 hc.2⟩
theorem gbpCTT {n:Nat} {t u s:Tmp} {T:TypeId} {k:Nat} [hT:Ty P T true k] {i:Nat} {E:TypeId} {cs:List GV} {g g':GV} (hr:fn.results=#[.cell t T,.tmp u,.tmp s]) (he:e=.normal∨e=.ret) (hg:gnth fr t=.loc i 0) (hΓ:Γ[i]?=some (.box E cs)) (hk:cs.length=k) (hg2:gnth fr u=g) (hg3:gnth fr s=g')
  (hm:m≤n) (hl:oLt n (Γ.take n)=true) (hgl:(GV.tup [.agg cs,g,g']).lt n=true) (h:R (.tup [.agg cs,g,g']) (Γ.take n)):gbp P fn m R e fr Γ :=
 ⟨he,fun B K β w l hB hI hF=>by
  obtain ⟨b,vs,h1,h2,h3,h4⟩:=hI.ob i _ hΓ
  have hp:nth l t=.pointer (some ⟨b,0,none⟩):=by
   have:=hF.nth t
   rw [hg] at this
   generalize nth l t=v at this
   cases this with
   | loc _ _ b' hb'=>rw [h1] at hb';cases hb';rfl
  have hp':l.toArray.getD t undef=.pointer (some ⟨b,0,none⟩):=by rw [nth_eq,hp]
  have hld:=run_loadVarN (P:=P) (w:=w) (t:=T) (b:=b) (o:=0) (vs:=vs) (k:=k) (by rw [h3.1,hk]) (fun j v hj=>by
   rw [Nat.zero_add,cell_of_row w b j _ E (0,0) h2];simpa using hj)
  have hp'':l[t]?.getD undef=.pointer (some ⟨b,0,none⟩):=by simpa using hp'
  refine ⟨.tuple #[.agg vs.toArray,nth l u,nth l s],K,resβ (below n) β,.tup [.agg cs,g,g'],Γ.take n,?_,hI.cut (by omega) hl,?_,h⟩
  ·rw [←nth_eq l u,←nth_eq l s];simp [results,hr,hp'',asAddr,hld]
  ·refine Rel.res ?_ hgl
   subst hg2 hg3
   have hc:RelL K β [.agg vs.toArray,nth l u,nth l s] [.agg cs,gnth fr u,gnth fr s]:=.cons (.agg vs cs h3.1 h3.2) (.cons (hF.nth u) (.cons (hF.nth s) .nil))
   exact .tup _ _ hc.1 hc.2⟩
end
end Go.Xg
set_option maxRecDepth 100000
namespace Go.Xg
open Go.RowKit Go.Xw Go.Proofs
open Go.Xp (Tok Nd T signOf one levels)
open Go.Sp
attribute [local irreducible] GW GL GO YG GC GA gthn ginb
abbrev by_ (c:UInt8):GV:=.v (.int .u8 (c.toNat:Int))
theorem l07Small_g (c:UInt8):GF Tryz.prog 206 [by_ c] [] (.v (.bool (small c))) []:=by
 unfold small
 refine GC.enter Tryz.func206 Tryz.ntmps206 rfl (by simp only [gframe,grep,Nat.reduceSub];rfl) ?_
 cases h:decide ((97:Int)≤(c.toNat:Int))
 all_goals
  refine w_grun ?_
  refine w_gret ?_
  exact ⟨rfl,rfl⟩
theorem l07Digit_g (c:UInt8):GF Tryz.prog 211 [by_ c] [] (.v (.bool (dig c))) []:=by
 unfold dig
 refine GC.enter Tryz.func211 Tryz.ntmps211 rfl (by simp only [gframe,grep,Nat.reduceSub];rfl) ?_
 cases h:decide ((48:Int)≤(c.toNat:Int))
 all_goals
  refine w_grun ?_
  refine w_gret ?_
  exact ⟨rfl,rfl⟩
theorem l07Part_g (c:UInt8):GF Tryz.prog 205 [by_ c] [] (.v (.bool (namb c))) []:=by
 unfold namb
 have hs:=l07Small_g c
 have hd:=l07Digit_g c
 generalize small c=b1 at *
 generalize dig c=b2 at *
 refine GC.enter Tryz.func205 Tryz.ntmps205 rfl (by simp only [gframe,grep,Nat.reduceSub];rfl) ?_
 refine w_grun ?_
 refine w_gcall [] (hs) ?_
 cases b1 with
 | true =>
  refine w_grun ?_
  refine w_gret ?_
  exact ⟨rfl,rfl⟩
 | false =>
  cases h1:decide ((65:Int)≤(c.toNat:Int)) with
  | true =>
   cases h2:decide ((c.toNat:Int)≤90) with
   | true =>
    refine w_grun ?_
    refine w_gret ?_
    exact ⟨rfl,rfl⟩
   | false =>
    refine w_grun ?_
    refine w_gcall [] (hd) ?_
    cases b2 with
    | true =>
     refine w_grun ?_
     refine w_gret ?_
     exact ⟨rfl,rfl⟩
    | false =>
     refine w_grun ?_
     refine w_gret ?_
     exact ⟨rfl,rfl⟩
  | false =>
   refine w_grun ?_
   refine w_gcall [] (hd) ?_
   cases b2 with
   | true =>
    refine w_grun ?_
    refine w_gret ?_
    exact ⟨rfl,rfl⟩
   | false =>
    refine w_grun ?_
    refine w_gret ?_
    exact ⟨rfl,rfl⟩
theorem l07Begins_g (s t:Str) (a:Nat) (hs:s.length≤1152921504606846976) (ht:t.length≤1152921504606846976) (ha:a≤1152921504606846976) :
  GF Tryz.prog 210 [.v (sv s),.v (ii (a:Nat)),.v (sv t)] [] (.v (.bool (begins s a t))) []:=by
 by_cases h:a+t.length≤s.length
 ·have h':decide (((a+t.length:Nat):Int)≤(s.length:Int))=true:=by simpa using by omega
  refine GC.enter Tryz.func210 Tryz.ntmps210 rfl (by simp only [gframe,grep,Nat.reduceSub];rfl) ?_
  refine w_grun ?_
  refine w_gret ?_
  unfold begins
  rw [decide_eq_true h]
  exact ⟨rfl,rfl⟩
 ·have h':decide (((a+t.length:Nat):Int)≤(s.length:Int))=false:=by simpa using by omega
  refine GC.enter Tryz.func210 Tryz.ntmps210 rfl (by simp only [gframe,grep,Nat.reduceSub];rfl) ?_
  refine w_grun ?_
  refine w_gret ?_
  unfold begins
  rw [decide_eq_false h]
  exact ⟨rfl,rfl⟩
theorem skip_g (s:Str) (a:Nat) (hs:s.length≤1099511627776) (ha:a≤s.length) :
  GF Tryz.prog 177 [.v (sv s),.v (ii (a:Nat))] [] (.tup [.v (ii ((skip s (s.length+1) a).1:Nat)),.v (ii (skip s (s.length+1) a).2)]) []:=by
 generalize hR:skip s (s.length+1) a=R
 refine GC.enter Tryz.func177 Tryz.ntmps177 rfl (by simp only [gframe,grep,Nat.reduceSub];rfl) ?_
 refine w_grun ?_
 refine GW.loop (fun x:Nat × Nat=>x.1) (fun x fr Γ=>fr=[.v (sv s),.v (ii (x.2:Nat)),.any,.any,.any,.any,.any,.any,.any,.any,.any,.any,.any,.any,.any,.any,.any,.any,.any,.any,.any,.any,.any,.any,.any,.any,.any,.any,.any,.any,.any,.any,.any,.any,.any,.any,.any,.any,.any,.any,.any,.any,.any,.any,.any,.any,.any,.any,.any,.any,.any,.any,.any,.any,.any,.any,.any,.any,.any,.any,.any,.any,.any]∧Γ=[]∧x.2≤s.length∧s.length < x.1+x.2∧skip s x.1 x.2=R) (s.length+1,a) ?_ ?_
 ·exact ⟨_,_,Wk.frm w_wkf,rfl,rfl,ha,by simp;omega,hR⟩
 ·rintro ⟨f,a⟩ _ _ ⟨rfl,rfl,ha,hf,h⟩
  simp only at ha hf h
  cases f with
  | zero=>omega
  | succ f =>
  rw [skip] at h
  cases hc:s[a]? with
  | none =>
   rw [hc] at h
   simp only at h
   subst h
   have hge:s.length≤a:=List.getElem?_eq_none_iff.1 hc
   have hd:decide ((a:Int) < (s.length:Int))=false:=by simpa using hge
   refine w_grun ?_
   refine w_gexit ?_
   refine w_grun ?_
   refine w_gret2 ?_
   exact ⟨rfl,rfl⟩
  | some c =>
   rw [hc] at h
   simp only at h
   have hlt:a < s.length:=(List.getElem?_eq_some_iff.1 hc).1
   have hd:decide ((a:Int) < (s.length:Int))=true:=by simpa using hlt
   have hb:isBlank c=(((c.toNat:Int)==32) || ((c.toNat:Int)==9) || ((c.toNat:Int)==10) || ((c.toNat:Int)==13)):=rfl
   by_cases hbl:isBlank c=true
   ·rw [if_pos hbl] at h
    rw [hb] at hbl
    have hway:((c.toNat:Int)==32)=true∨(((c.toNat:Int)==32)=false∧((c.toNat:Int)==9)=true)∨(((c.toNat:Int)==32)=false∧((c.toNat:Int)==9)=false∧((c.toNat:Int)==10)=true) ∨
      (((c.toNat:Int)==32)=false∧((c.toNat:Int)==9)=false∧((c.toNat:Int)==10)=false∧((c.toNat:Int)==13)=true):=by
     generalize ((c.toNat:Int)==32)=b1 at *
     generalize ((c.toNat:Int)==9)=b2 at *
     generalize ((c.toNat:Int)==10)=b3 at *
     generalize ((c.toNat:Int)==13)=b4 at *
     clear hb
     revert hbl;cases b1 <;> cases b2 <;> cases b3 <;> cases b4 <;> simp
    clear hb hbl
    rcases hway with k1 | ⟨k1,k2⟩ | ⟨k1,k2,k3⟩ | ⟨k1,k2,k3,k4⟩
    all_goals
     refine w_grun ?_
     refine w_gexit ?_
     exact ⟨(f,a+1),⟨_,_,Wk.frm w_wkf,rfl,rfl,by simp only;omega,by simp only;omega,h⟩,by simp⟩
   ·rw [if_neg hbl] at h
    rw [hb] at hbl
    have hway:((c.toNat:Int)==32)=false∧((c.toNat:Int)==9)=false∧((c.toNat:Int)==10)=false∧((c.toNat:Int)==13)=false:=by
     generalize ((c.toNat:Int)==32)=b1 at *
     generalize ((c.toNat:Int)==9)=b2 at *
     generalize ((c.toNat:Int)==10)=b3 at *
     generalize ((c.toNat:Int)==13)=b4 at *
     clear hb
     revert hbl;cases b1 <;> cases b2 <;> cases b3 <;> cases b4 <;> simp
    clear hb hbl
    obtain ⟨k1,k2,k3,k4⟩:=hway
    by_cases hbg:begins s a [47,42]=true
    ·rw [if_pos hbg] at h
     have hbl:=begins_len hbg
     have hbl:a+2≤s.length:=hbl
     have hbn:(!begins s a [47,42])=false:=by rw [hbg];rfl
     try simp only at h
     generalize he:closeAt s s.length (a+2)=e at h
     refine w_grun ?_
     refine w_gcall [] (l07Begins_g s [47,42] a (by omega) (by decide) (by omega)) ?_
     refine w_grun ?_
     have hce:=closeAt_end s s.length (a+2) (by omega) (by omega)
     have hcl:=closeAt_le s s.length (a+2) (by omega)
     rw [he] at hce hcl
     refine GW.joinX (fun fr Γ=>fr=[.v (sv s),.v (ii (a:Nat)),.any,.any,.any,.any,.v (ii (e:Nat)),.any,.any,.any,.any,.any,.any,.any,.any,.any,.any,.any,.any,.any,.any,.any,.any,.any,.any,.any,.any,.any,.any,.any,.any,.any,.any,.any,.any,.any,.any,.any,.any,.any,.any,.any,.any,.any,.any,.any,.any,.any,.any,.any,.any,.any,.any,.any,.any,.any,.any,.any,.any,.any,.any,.any,.any]∧Γ=[]) ?_ ?_
     ·refine GW.loop (fun x:Nat × Nat=>x.1) (fun x fr Γ=>fr=[.v (sv s),.v (ii (a:Nat)),.any,.any,.any,.any,.v (ii (x.2:Nat)),.any,.any,.any,.any,.any,.any,.any,.any,.any,.any,.any,.any,.any,.any,.any,.any,.any,.any,.any,.any,.any,.any,.any,.any,.any,.any,.any,.any,.any,.any,.any,.any,.any,.any,.any,.any,.any,.any,.any,.any,.any,.any,.any,.any,.any,.any,.any,.any,.any,.any,.any,.any,.any,.any,.any,.any]∧Γ=[]∧x.2≤s.length∧closeAt s x.1 x.2=e) (s.length,a+2) ?_ ?_
      ·exact ⟨_,_,Wk.frm w_wkf,rfl,rfl,by simp only;omega,he⟩
      ·rintro ⟨g,e'⟩ _ _ ⟨rfl,rfl,hle,hcc⟩
       simp only at hle hcc
       by_cases hstop:e' < s.length
       ·have hd2:decide ((e':Int) < (s.length:Int))=true:=by simpa using hstop
        cases hbe:begins s e' [42,47] with
        | true =>
         have hbe2:(!begins s e' [42,47])=false:=by rw [hbe];rfl
         have hee:e'=e:=by
          cases g with
          | zero=>exact hcc
          | succ g=>rw [closeAt,if_neg (by rw [hbe];simp)] at hcc;exact hcc
         subst hee
         refine w_grun ?_
         refine w_gcall [] (l07Begins_g s [42,47] e' (by omega) (by decide) (by omega)) ?_
         refine w_grun ?_
         refine w_gexit ?_
         exact ⟨_,_,Wk.frm w_wkf,rfl,rfl⟩
        | false =>
         have hbe2:(!begins s e' [42,47])=true:=by rw [hbe];rfl
         cases g with
         | zero=>exact absurd ⟨by rw [←hcc];exact hstop,by rw [←hcc];exact hbe⟩ hce
         | succ g =>
          rw [closeAt,if_pos ⟨hstop,hbe⟩] at hcc
          refine w_grun ?_
          refine w_gcall [] (l07Begins_g s [42,47] e' (by omega) (by decide) (by omega)) ?_
          refine w_grun ?_
          exact ⟨(g,e'+1),⟨_,_,Wk.frm w_wkf,rfl,rfl,hstop,hcc⟩,by simp⟩
       ·have hd2:decide ((e':Int) < (s.length:Int))=false:=by simp;omega
        have hee:e'=e:=by
         cases g with
         | zero=>exact hcc
         | succ g=>rw [closeAt,if_neg (fun hh=>hstop hh.1)] at hcc;exact hcc
        subst hee
        refine w_grun ?_
        refine w_gexit ?_
        exact ⟨_,_,Wk.frm w_wkf,rfl,rfl⟩
     ·rintro _ _ ⟨rfl,rfl⟩
      by_cases hle:s.length≤e
      ·rw [if_pos hle] at h
       have hle':decide ((s.length:Int)≤(e:Int))=true:=by simpa using hle
       subst h
       refine w_grun ?_
       refine w_gret2 ?_
       exact ⟨rfl,rfl⟩
      ·rw [if_neg hle] at h
       have hle':decide ((s.length:Int)≤(e:Int))=false:=by simp;omega
       have hbe:begins s e [42,47]=true:=by
        cases hbe:begins s e [42,47] with
        | true=>rfl
        | false=>exact absurd ⟨by omega,hbe⟩ hce
       have hbe:=begins_len hbe
       have hbe:e+2≤s.length:=hbe
       refine w_grun ?_
       refine w_gexit ?_
       exact ⟨(f,e+2),⟨_,_,Wk.frm w_wkf,rfl,rfl,hbe,by simp only;omega,h⟩,by simp⟩
    ·rw [if_neg hbg] at h
     have hbn:(!begins s a [47,42])=true:=by simpa using hbg
     subst h
     refine w_grun ?_
     refine w_gcall [] (l07Begins_g s [47,42] a (by omega) (by decide) (by omega)) ?_
     refine w_grun ?_
     refine w_gret2 ?_
     exact ⟨rfl,rfl⟩
end Go.Xg
namespace Go.Xg
open Go.RowKit Go.Xw Go.Proofs
open Go.Xp (Tok Nd T signOf one levels)
open Go.Sp
attribute [local irreducible] GW GL GO YG GC GA gthn ginb
theorem l07Words_g:GF Tryz.prog 175 [] [] (strs words) []:=by
 refine GC.enter Tryz.func175 Tryz.ntmps175 rfl (by simp only [gframe,grep,Nat.reduceSub];rfl) ?_
 refine w_grun ?_
 refine w_gmk ?_
 refine w_grun ?_
 refine w_gret ?_
 exact ⟨rfl,rfl⟩
theorem l07Signs_g:GF Tryz.prog 213 [] [] (strs signs) []:=by
 refine GC.enter Tryz.func213 Tryz.ntmps213 rfl (by simp only [gframe,grep,Nat.reduceSub];rfl) ?_
 refine w_grun ?_
 refine w_gmk ?_
 refine w_grun ?_
 refine w_gret ?_
 exact ⟨rfl,rfl⟩
theorem l07Word_g (s:Str) (hs:s.length≤1099511627776):GF Tryz.prog 174 [.v (sv s)] [] (.v (.bool (word s))) []:=by
 refine GC.enter Tryz.func174 Tryz.ntmps174 rfl (by simp only [gframe,grep,Nat.reduceSub];rfl) ?_
 refine w_grun ?_
 refine GW.loop (fun a:Nat=>s.length - a) (fun a fr Γ=>fr=[.v (sv s),.any,.any,.v (ii (a:Nat)),.any,.any,.any,.any,.any,.any,.any,.any,.any,.any,.any,.any,.any,.any,.any,.any,.any,.any]∧Γ=[]∧a≤s.length∧(s.take a).all namb=true) 0 ?_ ?_
 ·exact ⟨_,_,Wk.frm w_wkf,rfl,rfl,Nat.zero_le _,rfl⟩
 ·rintro a _ _ ⟨rfl,rfl,ha,hall⟩
  cases hc:s[a]? with
  | some c =>
   have hlt:a < s.length:=(List.getElem?_eq_some_iff.1 hc).1
   have hd:decide ((a:Int) < (s.length:Int))=true:=by simpa using hlt
   have hnext:(s.take (a+1)).all namb=((s.take a).all namb&&namb c):=by
    rw [List.take_add_one,hc,List.all_append];simp
   have hp:=l07Part_g c
   cases hn:namb c with
   | true =>
    rw [hn] at hp
    refine w_grun ?_
    refine w_gcall [] (hp) ?_
    refine w_grun ?_
    exact ⟨a+1,⟨_,_,Wk.frm w_wkf,rfl,rfl,hlt,by rw [hnext,hall,hn];rfl⟩,by omega⟩
   | false =>
    rw [hn] at hp
    refine w_grun ?_
    refine w_gcall [] (hp) ?_
    refine w_grun ?_
    refine w_gret ?_
    refine ⟨?_,rfl⟩
    have hw:word s=false:=by
     have:s.all namb=false:=by
      rw [List.all_eq_false];exact ⟨c,List.mem_of_getElem? hc,by rw [hn];decide⟩
     unfold word;rw [this];rfl
    rw [hw];rfl
  | none =>
   have hge:s.length≤a:=List.getElem?_eq_none_iff.1 hc
   have hd:decide ((a:Int) < (s.length:Int))=false:=by simpa using hge
   have hall:s.all namb=true:=by rw [List.take_of_length_le hge] at hall;exact hall
   cases s with
   | nil =>
    refine w_grun ?_
    refine w_gexit ?_
    refine w_grun ?_
    refine w_gret ?_
    exact ⟨rfl,rfl⟩
   | cons c r =>
    have hr:(c::r)[0]?=some c:=rfl
    refine w_grun ?_
    refine w_gexit ?_
    refine w_grun ?_
    refine w_gcall [] (l07Small_g c) ?_
    refine w_grun ?_
    refine w_gret ?_
    refine ⟨?_,rfl⟩
    unfold word;rw [hall];rfl
theorem NameOk_g (s:Str) (hs:s.length≤1099511627776):GF Tryz.prog 131 [.v (sv s)] [] (.v (.bool (nameOk s))) []:=by
 have hw:=l07Word_g s hs
 unfold nameOk
 generalize word s=b at *
 refine GC.enter Tryz.func131 Tryz.ntmps131 rfl (by simp only [gframe,grep,Nat.reduceSub];rfl) ?_
 refine w_grun ?_
 refine w_gcall [] (hw) ?_
 cases b with
 | false =>
  refine w_grun ?_
  refine w_gret ?_
  exact ⟨rfl,rfl⟩
 | true =>
  by_cases h12:s.length≤12
  ·have h12':decide ((s.length:Int)≤12)=true:=by simpa using by omega
   refine w_grun ?_
   refine w_gcall [] (l07Words_g) ?_
   refine w_grun ?_
   refine w_gcall [] (l07Has_g words s (by decide)) ?_
   refine w_grun ?_
   refine w_gret ?_
   rw [decide_eq_true h12]
   exact ⟨rfl,rfl⟩
  ·have h12':decide ((s.length:Int)≤12)=false:=by simpa using by omega
   refine w_grun ?_
   refine w_gret ?_
   rw [decide_eq_false h12]
   exact ⟨rfl,rfl⟩
end Go.Xg
namespace Go.Xg
open Go.RowKit Go.Xw Go.Proofs
open Go.Xp (Tok Nd T signOf one levels)
open Go.Sp
attribute [local irreducible] GW GL GO YG GC GA gthn ginb
theorem l07Number_g (s:Str) (a:Nat) (hs:s.length≤1099511627776) (ha:a≤s.length) :
  GF Tryz.prog 212 [.v (sv s),.v (ii (a:Nat))] [] (.tup [.agg (encTok ⟨1,(number s (s.length+1) 0 a).1,[],a⟩),.v (ii ((number s (s.length+1) 0 a).2:Nat))]) []:=by
 generalize hR:number s (s.length+1) 0 a=R
 generalize ha0:a=a0 at *
 refine GC.enter Tryz.func212 Tryz.ntmps212 rfl (by simp only [gframe,grep,Nat.reduceSub];rfl) ?_
 refine w_grun ?_
 refine GW.loop (fun x:Nat × Int × Nat=>x.1) (fun x fr Γ=>fr=[.v (sv s),.v (ii (x.2.2:Nat)),.any,.any,.loc 0 0,.any,.loc 1 0,.any,.any,.any,.any,.any,.any,.any,.any,.any,.any,.any,.any,.any,.any,.any,.any,.any,.any,.any,.any,.any,.any,.any,.any,.any,.any,.any,.any,.any]∧Γ=[.box 148 [.v (ii 0),.v (ii 0),.v (sv []),.v (ii 0)],.box 148 (encTok ⟨1,x.2.1,[],a0⟩)]∧x.2.2≤s.length∧s.length < x.1+x.2.2∧number s x.1 x.2.1 x.2.2=R∧0≤x.2.1∧x.2.1≤21474836479) (s.length+1,0,a0) ?_ ?_
 ·exact ⟨_,_,Wk.frm w_wkf,rfl,rfl,by simp only;omega,by simp only;omega,by rw [←hR],by simp,by simp⟩
 ·rintro ⟨f,n,a⟩ _ _ ⟨rfl,rfl,ha,hf,h,hn0,hn1⟩
  simp only at ha hf h hn0 hn1
  cases f with
  | zero=>omega
  | succ f =>
  rw [number] at h
  cases hc:s[a]? with
  | none =>
   rw [hc] at h
   simp only at h
   subst h
   have hge:s.length≤a:=List.getElem?_eq_none_iff.1 hc
   have hd:decide ((a:Int) < (s.length:Int))=false:=by simpa using hge
   refine w_grun ?_
   refine w_gexit ?_
   refine w_grun ?_
   refine w_gretct ?_
   exact ⟨rfl,rfl⟩
  | some c =>
   rw [hc] at h
   simp only at h
   have hlt:a < s.length:=(List.getElem?_eq_some_iff.1 hc).1
   have hd:decide ((a:Int) < (s.length:Int))=true:=by simpa using hlt
   have hdg:=l07Digit_g c
   cases hdc:dig c with
   | false =>
    rw [hdc] at hdg
    rw [if_neg (by rw [hdc];simp)] at h
    subst h
    refine w_grun ?_
    refine w_gcall [] (hdg) ?_
    refine w_grun ?_
    refine w_gexit ?_
    refine w_grun ?_
    refine w_gretct ?_
    exact ⟨rfl,rfl⟩
   | true =>
    rw [hdc] at hdg
    rw [if_pos hdc] at h
    have hrange:(48:Int)≤(c.toNat:Int)∧(c.toNat:Int)≤57:=by
     simp only [dig,Bool.and_eq_true,decide_eq_true_eq] at hdc;exact hdc
    by_cases hn:n≤2147483647
    ·rw [if_pos hn] at h
     have hn':decide (n≤2147483647)=true:=by simpa using hn
     refine w_grun ?_
     refine w_gcall [] (hdg) ?_
     refine w_grun ?_
     refine GW.draw (.q 0 (.q 1 (.q 2 (.q 3 (.q 4 (.q 5 (.q 6 (.q 7 (.q 8 (.q 9 (.a 10 .nil))))))))))) (by kernel_rfl) (by kernel_rfl) ?_
     refine w_gorun ?_
     refine w_grun ?_
     exact ⟨(f,n * 10+((c.toNat:Int) - 48),a+1),⟨_,_,Wk.frm w_wkf,rfl,rfl,hlt,by simp only;omega,h,by simp only;omega,by simp only;omega⟩,by simp⟩
    ·rw [if_neg hn] at h
     have hn':decide (n≤2147483647)=false:=by simpa using hn
     refine w_grun ?_
     refine w_gcall [] (hdg) ?_
     refine w_grun ?_
     exact ⟨(f,n,a+1),⟨_,_,Wk.frm w_wkf,rfl,rfl,hlt,by simp only;omega,h,hn0,hn1⟩,by simp⟩
end Go.Xg
namespace Go.Xg
open Go.RowKit Go.Xw Go.Proofs
open Go.Xp (Tok Nd T signOf one levels)
open Go.Sp
attribute [local irreducible] GW GL GO YG GC GA gthn ginb
theorem find_take {xs:List Str} {p:Str→Bool} {k:Nat} {x:Str} (h:(xs.take k).find? p=none) (hx:xs[k]?=some x) (hp:p x=true):xs.find? p=some x:=by
 have hlt:=(List.getElem?_eq_some_iff.1 hx).1
 have:xs=xs.take k++x::xs.drop (k+1):=by
  have h1:=List.take_append_drop k xs
  rw [List.drop_eq_getElem_cons hlt] at h1
  rw [(List.getElem?_eq_some_iff.1 hx).2] at h1
  exact h1.symm
 rw [this,List.find?_append,h]
 simp [List.find?_cons,hp]
theorem find_step {xs:List Str} {p:Str→Bool} {k:Nat} {x:Str} (h:(xs.take k).find? p=none) (hx:xs[k]?=some x) (hp:p x=false):(xs.take (k+1)).find? p=none:=by
 rw [List.take_add_one,hx,List.find?_append,h];simp [List.find?_cons,hp]
theorem signs_short:∀ x∈signs,x.length≤1152921504606846976:=by decide
theorem l07One_g (s:Str) (a:Nat) (c:UInt8) (hs:s.length≤1099511627776) (hc:s[a]?=some c) :
  GF Tryz.prog 178 [.v (sv s),.v (ii (a:Nat))] [] (.tup [.agg (encTok (tokAt s a c).1),.v (ii ((tokAt s a c).2:Nat))]) []:=by
 have hlt:a < s.length:=(List.getElem?_eq_some_iff.1 hc).1
 have hdg:=l07Digit_g c
 have hsm:=l07Small_g c
 unfold tokAt
 cases hdc:dig c with
 | true =>
  rw [hdc] at hdg
  rw [if_pos rfl]
  refine GC.enter Tryz.func178 Tryz.ntmps178 rfl (by simp only [gframe,grep,Nat.reduceSub];rfl) ?_
  refine w_grun ?_
  refine w_gcall [] (hdg) ?_
  refine w_grun ?_
  refine w_gcall [] (l07Number_g s a hs (by omega)) ?_
  refine w_grun ?_
  refine w_gretct ?_
  exact ⟨rfl,rfl⟩
 | false =>
  rw [hdc] at hdg
  rw [if_neg (by decide)]
  cases hsc:small c with
  | true =>
   rw [hsc] at hsm
   rw [if_pos rfl]
   have hre:=run_end s namb (s.length+1) a (by omega) (by omega)
   have hw0:(s.take (wordEnd s a)).drop a=wordAt s a:=rfl
   have he0:run s namb (s.length+1) a=wordEnd s a:=rfl
   rw [he0] at hre
   generalize he:wordEnd s a=e at *
   generalize hw:wordAt s a=w at *
   have hw:=hw0
   have he:=he0
   refine GC.enter Tryz.func178 Tryz.ntmps178 rfl (by simp only [gframe,grep,Nat.reduceSub];rfl) ?_
   refine w_grun ?_
   refine w_gcall [] (hdg) ?_
   refine w_grun ?_
   refine w_gcall [] (hsm) ?_
   refine w_grun ?_
   refine GW.joinX (fun fr Γ=>fr=[.v (sv s),.v (ii (a:Nat)),.any,.any,.loc 0 0,.any,.v (ii (e:Nat)),.any,.any,.any,.any,.any,.any,.any,.any,.any,.any,.any,.any,.any,.any,.any,.any,.any,.any,.any,.any,.any,.any,.any,.any,.any,.any,.any,.any,.any,.any,.any,.any,.any,.any,.any,.any,.any,.any,.any,.any,.any,.any,.any,.any,.any,.any,.any,.any,.any,.any,.any,.any,.any,.any,.any,.any,.any,.any,.any,.any,.any,.any]∧Γ=[.box 148 [.v (ii 0),.v (ii 0),.v (sv []),.v (ii 0)]]) ?_ ?_
   ·refine GW.loop (fun x:Nat × Nat=>x.1) (fun x fr Γ=>fr=[.v (sv s),.v (ii (a:Nat)),.any,.any,.loc 0 0,.any,.v (ii (x.2:Nat)),.any,.any,.any,.any,.any,.any,.any,.any,.any,.any,.any,.any,.any,.any,.any,.any,.any,.any,.any,.any,.any,.any,.any,.any,.any,.any,.any,.any,.any,.any,.any,.any,.any,.any,.any,.any,.any,.any,.any,.any,.any,.any,.any,.any,.any,.any,.any,.any,.any,.any,.any,.any,.any,.any,.any,.any,.any,.any,.any,.any,.any,.any]∧Γ=[.box 148 [.v (ii 0),.v (ii 0),.v (sv []),.v (ii 0)]]∧x.2≤s.length∧s.length < x.1+x.2∧run s namb x.1 x.2=e) (s.length+1,a) ?_ ?_
    ·exact ⟨_,_,Wk.frm w_wkf,rfl,rfl,by simp only;omega,by simp only;omega,he⟩
    ·rintro ⟨f,b⟩ _ _ ⟨rfl,rfl,hb,hf,h⟩
     simp only at hb hf h
     cases f with
     | zero=>omega
     | succ f =>
     rw [run] at h
     cases hcb:s[b]? with
     | none =>
      rw [hcb] at h
      simp only at h
      subst h
      have hge:s.length≤b:=List.getElem?_eq_none_iff.1 hcb
      have hd:decide ((b:Int) < (s.length:Int))=false:=by simpa using hge
      refine w_grun ?_
      refine w_gexit ?_
      exact ⟨_,_,Wk.frm w_wkf,rfl,rfl⟩
     | some cb =>
      rw [hcb] at h
      simp only at h
      have hltb:b < s.length:=(List.getElem?_eq_some_iff.1 hcb).1
      have hd:decide ((b:Int) < (s.length:Int))=true:=by simpa using hltb
      have hp:=l07Part_g cb
      cases hn:namb cb with
      | true =>
       rw [hn] at hp
       rw [if_pos hn] at h
       refine w_grun ?_
       refine w_gcall [] (hp) ?_
       refine w_grun ?_
       exact ⟨(f,b+1),⟨_,_,Wk.frm w_wkf,rfl,rfl,hltb,by simp only;omega,h⟩,by simp⟩
      | false =>
       rw [hn] at hp
       rw [if_neg (by rw [hn];decide)] at h
       subst h
       refine w_grun ?_
       refine w_gcall [] (hp) ?_
       refine w_grun ?_
       refine w_gexit ?_
       exact ⟨_,_,Wk.frm w_wkf,rfl,rfl⟩
   ·rintro _ _ ⟨rfl,rfl⟩
    obtain ⟨_,h1,h2⟩:=hre
    refine w_grun ?_
    rw [hw]
    have hhas:=l07Has_g words w (by decide)
    cases hcw:words.contains w with
    | true =>
     rw [hcw] at hhas
     refine GW.draw (.q 1 (.q 2 (.a 0 (.a 3 .nil)))) (by kernel_rfl) (by kernel_rfl) ?_
     refine w_gorun ?_
     refine w_gocall [] (l07Words_g) ?_
     refine w_gorun ?_
     refine w_gocall [] (hhas) ?_
     refine w_gorun ?_
     refine w_grun ?_
     refine w_gretct ?_
     rw [if_pos rfl]
     exact ⟨rfl,rfl⟩
    | false =>
     rw [hcw] at hhas
     refine GW.draw (.q 1 (.q 2 (.a 0 (.a 3 .nil)))) (by kernel_rfl) (by kernel_rfl) ?_
     refine w_gorun ?_
     refine w_gocall [] (l07Words_g) ?_
     refine w_gorun ?_
     refine w_gocall [] (hhas) ?_
     refine w_gorun ?_
     refine w_grun ?_
     refine w_gretct ?_
     rw [if_neg (by decide)]
     exact ⟨rfl,rfl⟩
  | false =>
   rw [hsc] at hsm
   rw [if_neg (by decide)]
   refine GC.enter Tryz.func178 Tryz.ntmps178 rfl (by simp only [gframe,grep,Nat.reduceSub];rfl) ?_
   refine w_grun ?_
   refine w_gcall [] (hdg) ?_
   refine w_grun ?_
   refine w_gcall [] (hsm) ?_
   refine w_grun ?_
   refine w_gcall [] (l07Signs_g) ?_
   refine w_grun ?_
   refine GW.range (signs.map fun s=>[GV.v (sv s)]).length (fun k fr Γ=>fr=[.v (sv s),.v (ii (a:Nat)),.any,.any,.loc 0 0,.any,.any,.any,.any,.any,.any,.any,.any,.any,.any,.any,.any,.any,.any,.any,.any,.any,.any,.any,.any,.any,.any,.any,.any,.any,.any,.any,.any,.any,.any,.any,.any,.any,.any,.any,.any,.any,.any,.any,.any,.any,.any,.any,.any,strs signs,.v (ii ((signs.map fun s=>[GV.v (sv s)]).length:Int)),.v (ii (k:Nat)),.any,.any,.any,.any,.any,.any,.any,.any,.any,.any,.any,.any,.any,.any,.any,.any,.any]∧Γ=[.box 148 [.v (ii 0),.v (ii 0),.v (sv []),.v (ii 0)]]∧(signs.take k).find? (begins s a)=none) ?_ (by decide) ?_ ?_ ?_
   ·exact ⟨_,_,Wk.frm w_wkf,rfl,rfl,rfl⟩
   ·rintro k _ _ ⟨rfl,rfl,_⟩;exact ⟨rfl,rfl,rfl⟩
   ·rintro k _ _ hk ⟨rfl,rfl,hf⟩
    have hk:k < signs.length:=by simpa using hk
    have hx:signs[k]?=some signs[k]:=by simp [hk]
    have hr:(signs.map fun s=>[GV.v (sv s)])[k]?=some [.v (sv signs[k])]:=by simp [hk]
    have hxl:=signs_short _ (List.getElem_mem hk)
    generalize signs[k]=x at *
    have hbg:=l07Begins_g s x a (by omega) hxl (by omega)
    cases hb:begins s a x with
    | true =>
     rw [hb] at hbg
     have hfx:=find_take hf hx hb
     refine w_grun ?_
     refine w_gcall [] (hbg) ?_
     refine w_grun ?_
     refine w_gretct ?_
     rw [hfx]
     exact ⟨rfl,rfl⟩
    | false =>
     rw [hb] at hbg
     refine w_grun ?_
     refine w_gcall [] (hbg) ?_
     refine w_grun ?_
     exact ⟨rfl,rfl,_,_,Wk.frm w_wkf,rfl,rfl,find_step hf hx hb⟩
   ·rintro _ _ ⟨rfl,rfl,hf⟩
    have hf:signs.find? (begins s a)=none:=by
     rw [List.take_of_length_le (by simp)] at hf;exact hf
    refine w_grun ?_
    refine w_gretct ?_
    rw [hf]
    exact ⟨rfl,rfl⟩
theorem tokAt_le {s:Str} {a:Nat} {c:UInt8} (hc:s[a]?=some c):a≤(tokAt s a c).2∧(tokAt s a c).2≤s.length:=by
 have hlt:a < s.length:=(List.getElem?_eq_some_iff.1 hc).1
 unfold tokAt
 split
 ·exact (number_end s (s.length+1) 0 a (by omega) (by omega)).2
 ·split
  ·exact (run_end s namb (s.length+1) a (by omega) (by omega)).2
  ·split
   ·rename_i x hx
    have:=begins_len (List.find?_some hx)
    exact ⟨Nat.le_add_right _ _,this⟩
   ·exact ⟨Nat.le_refl _,by omega⟩
theorem l08Toks_g (s:Str) (l:List Tok) (hs:s.length≤1000000000000) (h:Go.Sp.toks s=some l) :
  GF Tryz.prog 135 [.v (sv s)] [] (Go.Xg.toks l) []:=by
 rw [Go.Sp.toks] at h
 have hsk:=skip_g s 0 (by omega) (Nat.zero_le _)
 have hsl:=skip_le s (s.length+1) 0 (Nat.zero_le _)
 generalize hS:skip s (s.length+1) 0=R at *
 refine GC.enter Tryz.func135 Tryz.ntmps135 rfl (by simp only [gframe,grep,Nat.reduceSub];rfl) ?_
 refine w_grun ?_
 refine w_gmkv ?_
 refine w_grun ?_
 refine w_gcall [] (hsk) ?_
 refine w_grun ?_
 refine GW.loop (fun x:Nat × Nat × List Tok=>x.1) (fun x fr Γ=>∃ n rows,fr=[.v (sv s),.any,.any,.vec 0 n,.v (ii (x.2.1:Nat)),.any,.any,.any,.any,.any,.any,.any,.any,.any,.any,.any,.any,.any,.any,.any,.any,.any,.any,.any,.any,.any,.any,.any,.any,.any,.any,.any,.any,.any,.any]∧Γ=[.vec 148 4 0 rows]∧rows.length=n∧rows=x.2.2.map encTok∧n+x.1≤s.length+2∧x.2.1≤s.length∧toksAt s x.1 x.2.1 x.2.2=some l) (s.length+2,R.1,[]) ?_ ?_
 ·exact ⟨_,_,Wk.frm w_wkf,0,[],rfl,rfl,rfl,rfl,by simp,hsl.2,h⟩
 ·rintro ⟨f,a,acc⟩ _ _ ⟨n,rows,rfl,rfl,hn,hrow,hnf,ha,h⟩
  simp only at hrow hnf ha h
  cases f with
  | zero=>simp [toksAt] at h
  | succ f =>
  rw [toksAt] at h
  cases hc:s[a]? with
  | none =>
   rw [hc] at h
   simp only at h
   cases h
   have hge:s.length≤a:=List.getElem?_eq_none_iff.1 hc
   have hd:decide ((a:Int) < (s.length:Int))=false:=by simpa using hge
   subst hrow
   refine w_grun ?_
   refine w_gexit ?_
   refine w_grun ?_
   refine GW.wk (Wk.snap (t:=2) rfl rfl rfl hn) ?_
   refine w_gret ?_
   exact ⟨rfl,rfl⟩
  | some c =>
   rw [hc] at h
   simp only at h
   have hlt:a < s.length:=(List.getElem?_eq_some_iff.1 hc).1
   have hd:decide ((a:Int) < (s.length:Int))=true:=by simpa using hlt
   have htl:=tokAt_le hc
   have hone:=l07One_g s a c (by omega) hc
   generalize tokAt s a c=tk at *
   have hsk2:=skip_g s tk.2 (by omega) htl.2
   have hsl2:=skip_le s (s.length+1) tk.2 htl.2
   generalize skip s (s.length+1) tk.2=R2 at *
   refine w_grun ?_
   refine w_gcall [] (hone) ?_
   refine w_grun ?_
   refine w_gpush ?_
   refine w_grun ?_
   refine w_gcall [] (hsk2) ?_
   refine w_grun ?_
   exact ⟨(f,R2.1,acc++[tk.1]),⟨_,_,(Wk.cut (n:=1) (Nat.le_of_ble_eq_true rfl) rfl).trans (Wk.frm w_wkf),_,_,rfl,rfl,by simp [hn],by rw [List.map_append,hrow];rfl,by simp only;omega,by simp only;omega,h⟩,by simp⟩
end Go.Xg
namespace Go.Xg
open Go.RowKit Go.Xw Go.Proofs
open Go.Xp (Tok Nd T signOf one levels)
open Go.Sp
attribute [local irreducible] GW GL GO YG GC GA gthn ginb
structure Rds (f:Nat):Prop where
 expr:∀ d p t q,p.ok→d+f≤4611686018427387904→mE f (.expr d) p=some (t,q)→GF Tryz.prog 214 [.loc 0 0,.v (ii (d:Nat))] [encRS p] (.agg (cT t)) [encRS q]
 level:∀ k d p t q,p.ok→k≤9→d+f≤4611686018427387904→mE f (.level k d) p=some (t,q)→GF Tryz.prog 227 [.loc 0 0,.v (ii (k:Nat)),.v (ii (d:Nat))] [encRS p] (.agg (cT t)) [encRS q]
 operand:∀ d p t q,p.ok→d+f≤4611686018427387904→mE f (.operand d) p=some (t,q)→GF Tryz.prog 233 [.loc 0 0,.v (ii (d:Nat))] [encRS p] (.agg (cT t)) [encRS q]
 named:∀ a s d p t q,p.ok→d+f≤4611686018427387904→mE f (.named a s d) p=some (t,q)→GF Tryz.prog 236 [.loc 0 0,.v (ii a),.v (sv s),.v (ii (d:Nat))] [encRS p] (.agg (cT t)) [encRS q]
 list:∀ d p l q,p.ok→d+f≤4611686018427387904→mL f d p=some (l,q)→GF Tryz.prog 240 [.loc 0 0,.v (ii (d:Nat))] [encRS p] (.sl 6 (encTs l)) [encRS q]
theorem expr_g {f:Nat} (C:Rds f) (d:Nat) (p:RS) (t:T) (q:RS) (hp:p.ok) (hd:d+(f+1)≤4611686018427387904) (h:mE (f+1) (.expr d) p=some (t,q)) :
  GF Tryz.prog 214 [.loc 0 0,.v (ii (d:Nat))] [encRS p] (.agg (cT t)) [encRS q]:=by
 rw [mE] at h
 refine GC.enter Tryz.func214 Tryz.ntmps214 rfl (by simp only [gframe,grep,Nat.reduceSub];rfl) ?_
 refine w_grun ?_
 refine w_gcall [0] (l08Deep_g p d hp) ?_
 refine w_grun ?_
 refine w_gcall [0] (C.level 0 d _ t q ((to_deep hp d).ok hp) (by omega) (by omega) h) ?_
 refine w_grun ?_
 refine w_gretc ?_
 exact ⟨rfl,rfl⟩
theorem lev_row {k:Nat} (hk:k < 9):(levels.map fun l=>[strs l])[k]?=some [strs (levels.getD k [])]:=by
 have:k < levels.length:=hk
 rw [List.getElem?_map,List.getElem?_eq_getElem this,List.getD_eq_getElem?_getD,List.getElem?_eq_getElem this];rfl
theorem lev_len:∀ k,k < 9→(levels.getD k []).length≤1099511627776:=by decide
abbrev zT:List GV:=[.v (ii 0),.v (ii 0),.v (ii 0),.v (sv []),.v (.slice none 0 0),.v (.slice none 0 0)]
theorem level_g {f:Nat} (C:∀ f',f'≤f→Rds f') (k d:Nat) (p:RS) (t:T) (q:RS) (hp:p.ok) (hk:k≤9) (hd:d+(f+1)≤4611686018427387904) (h:mE (f+1) (.level k d) p=some (t,q)) :
  GF Tryz.prog 227 [.loc 0 0,.v (ii (k:Nat)),.v (ii (d:Nat))] [encRS p] (.agg (cT t)) [encRS q]:=by
 rw [mE] at h
 by_cases hk9:k=9
 ·subst hk9
  rw [if_pos rfl] at h
  refine GC.enter Tryz.func227 Tryz.ntmps227 rfl (by simp only [gframe,grep,Nat.reduceSub];rfl) ?_
  refine w_grun ?_
  refine w_gcall [] (l08Levels_g) ?_
  refine w_grun ?_
  refine w_gcall [0] ((C f (Nat.le_refl _)).operand (d+1) p t q hp (by omega) h) ?_
  refine w_grun ?_
  refine w_gretc ?_
  exact ⟨rfl,rfl⟩
 ·rw [if_neg hk9] at h
  have hk9':((k:Int)==9)=false:=by simp;omega
  cases he:mE f (.level (k+1) d) p with
  | none=>rw [he] at h;cases h
  | some r =>
   obtain ⟨out,p1⟩:=r
   rw [he] at h
   simp only at h
   have hp1:=((mE_to f).1 _ _ _ _ hp he).ok hp
   refine GC.enter Tryz.func227 Tryz.ntmps227 rfl (by simp only [gframe,grep,Nat.reduceSub];rfl) ?_
   refine w_grun ?_
   refine w_gcall [] (l08Levels_g) ?_
   refine w_grun ?_
   refine w_gcall [0] ((C f (Nat.le_refl _)).level (k+1) d p out p1 hp (by omega) (by omega) he) ?_
   refine w_grun ?_
   refine GW.loop (fun x:Nat × T × RS=>x.1) (fun x fr Γ=>fr=[.loc 0 0,.v (ii (k:Nat)),.v (ii (d:Nat)),.any,.any,.any,.loc 1 0,.loc 2 0,.any,.any,.any,.any,.any,.any,.any,.any,.any,.any,.any,.any,.any,.any,.any,.any,.any,.any,.any,.any,.any,.any,.any,.any,.any,.any,.any,.any,.any,.any,.any,.any,.any,.any,.any,.any,.any,.any,.any,.any,.any,.any,.any,.any,.any,.any,.any,.any,.any,.any,.any,.any,.any,.any,.any,.any,.any,.any]∧Γ=[encRS x.2.2,.box 70 zT,.box 70 (cT x.2.1)]∧x.2.2.ok∧x.1≤f∧mE x.1 (.loop k d x.2.1) x.2.2=some (t,q)) (f,out,p1) ?_ ?_
   ·exact ⟨_,_,Wk.frm w_wkf,rfl,rfl,hp1,Nat.le_refl _,h⟩
   ·rintro ⟨g,out,p⟩ _ _ ⟨rfl,rfl,hp,hgf,h⟩
    simp only at hp hgf h
    cases g with
    | zero=>simp [mE] at h
    | succ g =>
    rw [mE] at h
    have hk:k < 9:=by omega
    by_cases hc:p.code=0
    ·have hc':(p.code==0)=true:=by simpa using hc
     have hlr:=lev_row hk
     by_cases hit:(levels.getD k []).contains (p.sign 0)=true
     ·rw [if_pos ⟨hc,hit⟩] at h
      cases ht:p.l[p.i]? with
      | none=>rw [ht] at h;cases h
      | some tk =>
       rw [ht] at h
       simp only at h
       have hlt:=(List.getElem?_eq_some_iff.1 ht).1
       have hr:=row_tok ht
       have hpl:=hp.2
       cases hb:mE g (.level (k+1) d) p.next with
       | none=>rw [hb] at h;cases h
       | some r =>
        obtain ⟨b,p2⟩:=r
        rw [hb] at h
        simp only at h
        have hpn:=(to_next hlt).ok hp
        have hp2:=((mE_to g).1 _ _ _ _ hpn hb).ok hpn
        refine w_grun ?_
        refine GW.draw (.q 0 (.q 1 (.q 2 (.q 3 (.q 4 (.q 5 (.q 7 (.q 10 (.a 6 (.q 8 (.q 9 (.a 11 (.a 12 (.q 13 .nil)))))))))))))) (by kernel_rfl) (by kernel_rfl) ?_
        refine w_gorun ?_
        refine w_gotcall [] (l08Levels_g) ?_
        refine w_gorun ?_
        refine w_gotcall [0] (l08Sign_g p 0 hp (by decide)) ?_
        refine w_gorun ?_
        refine w_gotcall [] (l07Has_g (levels.getD k []) (p.sign 0) (lev_len k hk)) ?_
        refine w_gorun ?_
        refine w_grun ?_
        refine GW.draw (.q 0 (.q 1 (.q 2 (.q 3 (.q 4 (.q 5 (.q 6 (.q 7 (.q 8 (.q 9 (.a 10 (.a 11 .nil)))))))))))) (by kernel_rfl) (by kernel_rfl) ?_
        refine w_gorun ?_
        refine w_grun ?_
        refine GW.draw (.q 0 (.q 1 (.q 2 (.q 3 (.q 4 (.q 5 (.q 6 (.q 7 (.q 8 (.a 9 (.a 10 (.a 11 (.a 12 .nil))))))))))))) (by kernel_rfl) (by kernel_rfl) ?_
        refine w_gorun ?_
        refine w_gocall [0] ((C g (by omega)).level (k+1) d p.next b p2 hpn (by omega) (by omega) hb) ?_
        refine w_gorun ?_
        refine w_gomk ?_
        refine w_gorun ?_
        refine w_gocall [] (l08One_g 6 tk.at_ tk.s [out,b] _ w_enc) ?_
        refine w_gost ?_
        refine w_gorun ?_
        refine w_grun ?_
        exact ⟨(g,one 6 tk.at_ tk.s [out,b],p2),⟨_,_,(Wk.cut (n:=3) (Nat.le_of_ble_eq_true rfl) rfl).trans (Wk.frm w_wkf),rfl,rfl,hp2,by omega,h⟩,by simp⟩
     ·have hit:(levels.getD k []).contains (p.sign 0)=false:=by simpa using hit
      rw [if_neg (by rw [hit];simp)] at h
      obtain ⟨rfl,rfl⟩:out=t∧p=q:=by simpa using h
      refine w_grun ?_
      refine GW.draw (.q 0 (.q 1 (.q 2 (.q 3 (.q 4 (.q 5 (.q 7 (.q 10 (.a 6 (.q 8 (.q 9 (.a 11 (.a 12 (.q 13 .nil)))))))))))))) (by kernel_rfl) (by kernel_rfl) ?_
      refine w_gorun ?_
      refine w_gotcall [] (l08Levels_g) ?_
      refine w_gorun ?_
      refine w_gotcall [0] (l08Sign_g p 0 hp (by decide)) ?_
      refine w_gorun ?_
      refine w_gotcall [] (l07Has_g (levels.getD k []) (p.sign 0) (lev_len k hk)) ?_
      refine w_gorun ?_
      refine w_grun ?_
      refine w_gexit ?_
      refine w_grun ?_
      refine w_gretc ?_
      exact ⟨rfl,rfl⟩
    ·have hc':(p.code==0)=false:=by simpa using hc
     rw [if_neg (fun hh=>hc hh.1)] at h
     obtain ⟨rfl,rfl⟩:out=t∧p=q:=by simpa using h
     refine w_grun ?_
     refine GW.draw (.q 0 (.q 1 (.q 2 (.q 3 (.q 4 (.q 5 (.q 7 (.q 10 (.a 6 (.q 8 (.q 9 (.a 11 (.a 12 (.q 13 .nil)))))))))))))) (by kernel_rfl) (by kernel_rfl) ?_
     refine w_gorun ?_
     refine w_grun ?_
     refine w_gexit ?_
     refine w_grun ?_
     refine w_gretc ?_
     exact ⟨rfl,rfl⟩
end Go.Xg
namespace Go.Xg
open Go.RowKit Go.Xw Go.Proofs
open Go.Xp (Tok Nd T signOf one levels)
open Go.Sp
attribute [local irreducible] GW GL GO YG GC GA gthn ginb
theorem named_g {f:Nat} (C:Rds f) (a:Int) (s:Str) (d:Nat) (p:RS) (t:T) (q:RS) (hp:p.ok) (hd:d+(f+1)≤4611686018427387904) (h:mE (f+1) (.named a s d) p=some (t,q)) :
  GF Tryz.prog 236 [.loc 0 0,.v (ii a),.v (sv s),.v (ii (d:Nat))] [encRS p] (.agg (cT t)) [encRS q]:=by
 rw [mE] at h
 by_cases h1:p.sign 0=[91]
 ·rw [if_pos h1] at h
  have h1':(p.sign 0==[91])=true:=by simp [h1]
  have hlt:=(sign_lt h1 (by decide)).1
  have hpl:=hp.2
  have hpn:=(to_sign h1 (by decide)).ok hp
  cases he:mE f (.expr (d+1)) p.next with
  | none=>rw [he] at h;cases h
  | some r =>
   obtain ⟨b,p1⟩:=r
   rw [he] at h
   cases h
   have hp1:=((mE_to f).1 _ _ _ _ hpn he).ok hpn
   refine GC.enter Tryz.func236 Tryz.ntmps236 rfl (by simp only [gframe,grep,Nat.reduceSub];rfl) ?_
   refine w_grun ?_
   refine w_gcall [0] (l08Sign_g p 0 hp (by decide)) ?_
   refine w_grun ?_
   refine w_gcall [0] (C.expr (d+1) p.next b p1 hpn (by omega) he) ?_
   refine w_grun ?_
   refine w_gcall [0] (l08Must_g p1 [93] hp1 (by decide)) ?_
   refine w_grun ?_
   refine w_gmk ?_
   refine w_grun ?_
   refine w_gcall [] (l08One_g 3 a s [b] _ w_enc) ?_
   refine w_grun ?_
   refine w_gretc ?_
   exact ⟨rfl,rfl⟩
 ·rw [if_neg h1] at h
  have h1':(p.sign 0==[91])=false:=by simpa using h1
  by_cases h2:p.sign 0=[40]
  ·rw [if_pos h2] at h
   have h2':(p.sign 0==[40])=true:=by simp [h2]
   have hlt:=(sign_lt h2 (by decide)).1
   have hpl:=hp.2
   have hpn:=(to_sign h2 (by decide)).ok hp
   cases he:mL f (d+1) p.next with
   | none=>rw [he] at h;cases h
   | some r =>
    obtain ⟨l,p1⟩:=r
    rw [he] at h
    cases h
    refine GC.enter Tryz.func236 Tryz.ntmps236 rfl (by simp only [gframe,grep,Nat.reduceSub];rfl) ?_
    refine w_grun ?_
    refine w_gcall [0] (l08Sign_g p 0 hp (by decide)) ?_
    refine w_grun ?_
    refine w_gcall [0] (C.list (d+1) p.next l q hpn (by omega) he) ?_
    refine w_grun ?_
    refine w_gcall [] (l08One_g 4 a s l _ rfl) ?_
    refine w_grun ?_
    refine w_gretc ?_
    exact ⟨rfl,rfl⟩
  ·rw [if_neg h2] at h
   have h2':(p.sign 0==[40])=false:=by simpa using h2
   cases h
   refine GC.enter Tryz.func236 Tryz.ntmps236 rfl (by simp only [gframe,grep,Nat.reduceSub];rfl) ?_
   refine w_grun ?_
   refine w_gcall [0] (l08Sign_g p 0 hp (by decide)) ?_
   refine w_grun ?_
   refine w_gcall [] (l08One_g 2 a s [] [] rfl) ?_
   refine w_grun ?_
   refine w_gretc ?_
   exact ⟨rfl,rfl⟩
theorem encTs_len (l:List T):(encTs l).length=l.length:=by
 induction l with
 | nil=>rfl
 | cons a l ih=>simp [encTs,ih]
theorem encTs_app (l:List T) (a:T):encTs (l++[a])=encTs l++[cT a]:=by
 induction l with
 | nil=>simp [encTs,encT_eq]
 | cons b l ih=>simp [encTs,ih]
theorem list_g {f:Nat} (C:∀ f',f'≤f→Rds f') (d:Nat) (p:RS) (l:List T) (q:RS) (hp:p.ok) (hd:d+(f+1)≤4611686018427387904) (h:mL (f+1) d p=some (l,q)) :
  GF Tryz.prog 240 [.loc 0 0,.v (ii (d:Nat))] [encRS p] (.sl 6 (encTs l)) [encRS q]:=by
 rw [mL] at h
 by_cases h1:p.sign 0=[41]
 ·rw [if_pos h1] at h
  have h1':(!(p.sign 0==[41]))=false:=by simp [h1]
  cases h
  refine GC.enter Tryz.func240 Tryz.ntmps240 rfl (by simp only [gframe,grep,Nat.reduceSub];rfl) ?_
  refine w_grun ?_
  refine w_gmkv ?_
  refine w_grun ?_
  refine w_gcall [0] (l08Sign_g p 0 hp (by decide)) ?_
  refine w_grun ?_
  refine w_gcall [0] (l08Must_g p [41] hp (by decide)) ?_
  refine w_grun ?_
  refine GW.wk (Wk.snap (t:=4) rfl rfl rfl rfl) ?_
  refine w_gret ?_
  exact ⟨rfl,rfl⟩
 ·rw [if_neg h1] at h
  have h1':(!(p.sign 0==[41]))=true:=by simpa using h1
  cases he:mE f (.expr d) p with
  | none=>rw [he] at h;cases h
  | some r =>
   obtain ⟨a,p1⟩:=r
   rw [he] at h
   simp only at h
   have hp1:=((mE_to f).1 _ _ _ _ hp he).ok hp
   refine GC.enter Tryz.func240 Tryz.ntmps240 rfl (by simp only [gframe,grep,Nat.reduceSub];rfl) ?_
   refine w_grun ?_
   refine w_gmkv ?_
   refine w_grun ?_
   refine w_gcall [0] (l08Sign_g p 0 hp (by decide)) ?_
   refine w_grun ?_
   refine w_gcall [0] ((C f (Nat.le_refl _)).expr d p a p1 hp (by omega) he) ?_
   refine w_grun ?_
   refine w_gpush ?_
   refine w_grun ?_
   refine GW.loop (fun x:Nat × List T × RS=>x.1) (fun x fr Γ=>∃ n rows,fr=[.loc 0 0,.v (ii (d:Nat)),.any,.any,.any,.vec 1 n,.any,.any,.any,.any,.any,.any,.any,.any,.any,.any,.any,.any,.any,.any,.any,.any,.any,.any,.any,.any,.any,.any,.any,.any,.any,.any,.any,.any,.any]∧Γ=[encRS x.2.2,.vec 70 6 0 rows]∧rows.length=n∧rows=encTs x.2.1∧n≤x.2.2.i+1∧x.2.2.ok∧x.1≤f∧mLs x.1 d x.2.1 x.2.2=some (l,q)) (f,[a],p1) ?_ ?_
   ·exact ⟨_,_,Wk.frm w_wkf,_,_,rfl,rfl,rfl,(by simp only [encTs,encT_eq];rfl),(by show 1≤p1.i+1;omega),hp1,Nat.le_refl _,h⟩
   ·rintro ⟨g,acc,p⟩ _ _ ⟨n,rows,rfl,rfl,hn,hrow,hni,hp,hgf,h⟩
    simp only at hrow hni hp hgf h
    cases g with
    | zero=>simp [mLs] at h
    | succ g =>
    rw [mLs] at h
    have hpl:=hp.2
    have hpi:=hp.1
    by_cases h2:p.sign 0=[44]
    ·rw [if_pos h2] at h
     have h2':(p.sign 0==[44])=true:=by simp [h2]
     have hlt:=(sign_lt h2 (by decide)).1
     have hpn:=(to_sign h2 (by decide)).ok hp
     cases hb:mE g (.expr d) p.next with
     | none=>rw [hb] at h;cases h
     | some r =>
      obtain ⟨b,p2⟩:=r
      rw [hb] at h
      simp only at h
      have ht2:=(mE_to g).1 _ _ _ _ hpn hb
      have hp2:=ht2.ok hpn
      have hi2:p.i+1≤p2.i:=ht2.2.2.2
      refine w_grun ?_
      refine w_gcall [0] (l08Sign_g p 0 hp (by decide)) ?_
      refine w_grun ?_
      refine w_gcall [0] ((C g (by omega)).expr d p.next b p2 hpn (by omega) hb) ?_
      refine w_grun ?_
      refine w_gpush ?_
      refine w_grun ?_
      exact ⟨(g,acc++[b],p2),⟨_,_,Wk.frm w_wkf,_,_,rfl,rfl,by simp [hn],by rw [encTs_app,hrow],by simp only;omega,hp2,by simp only;omega,h⟩,by simp⟩
    ·rw [if_neg h2] at h
     have h2':(p.sign 0==[44])=false:=by simpa using h2
     obtain ⟨rfl,rfl⟩:acc=l∧p.must [41]=q:=by simpa using h
     subst hrow
     refine w_grun ?_
     refine w_gcall [0] (l08Sign_g p 0 hp (by decide)) ?_
     refine w_grun ?_
     refine w_gexit ?_
     refine w_grun ?_
     refine w_gcall [0] (l08Must_g p [41] hp (by decide)) ?_
     refine w_grun ?_
     refine GW.wk (Wk.snap (t:=4) rfl rfl rfl hn) ?_
     refine w_gret ?_
     exact ⟨rfl,rfl⟩
theorem operand_g {f:Nat} (C:Rds f) (d:Nat) (p:RS) (t:T) (q:RS) (hp:p.ok) (hd:d+(f+1)≤4611686018427387904) (h:mE (f+1) (.operand d) p=some (t,q)) :
  GF Tryz.prog 233 [.loc 0 0,.v (ii (d:Nat))] [encRS p] (.agg (cT t)) [encRS q]:=by
 rw [mE] at h
 have hpd:=(to_deep hp d).ok hp
 have hdeep:=l08Deep_g p d hp
 generalize p.deep d=p1 at *
 try simp only at h
 obtain ⟨hpi,hpl⟩:=id hpd
 by_cases hc:p1.code=0
 ·rw [if_pos hc] at h
  have hc':(p1.code != 0)=false:=by simpa using hc
  cases ht:p1.l[p1.i]? with
  | none =>
   rw [ht] at h
   cases h
   have hge:p1.l.length≤p1.i:=List.getElem?_eq_none_iff.1 ht
   have hge':decide (((p1.l.map encTok).length:Int)≤(p1.i:Int))=true:=by simp;omega
   refine GC.enter Tryz.func233 Tryz.ntmps233 rfl (by simp only [gframe,grep,Nat.reduceSub];rfl) ?_
   refine w_grun ?_
   refine w_gcall [0] (hdeep) ?_
   refine w_grun ?_
   refine GW.draw (.q 0 (.q 1 (.q 2 (.q 3 (.q 4 (.q 5 (.q 6 (.q 7 (.q 8 (.q 9 (.q 10 (.q 11 (.q 12 (.q 13 (.q 14 (.q 15 (.q 16 .nil))))))))))))))))) (by kernel_rfl) (by kernel_rfl) ?_
   refine w_gorun ?_
   refine w_grun ?_
   refine w_gcall [0] (l08Place_g p1 hpd) ?_
   refine w_grun ?_
   refine w_gcall [0] (l08Fail_g p1 7 p1.place) ?_
   refine w_grun ?_
   refine w_gretcl ?_
   exact ⟨_,w_gle,rfl,rfl⟩
  | some tk =>
   rw [ht] at h
   simp only at h
   have hlt:p1.i < p1.l.length:=(List.getElem?_eq_some_iff.1 ht).1
   have hge':decide (((p1.l.map encTok).length:Int)≤(p1.i:Int))=false:=by simp;omega
   have hr:=row_tok ht
   have hpn:=(to_next hlt).ok hpd
   refine GC.enter Tryz.func233 Tryz.ntmps233 rfl (by simp only [gframe,grep,Nat.reduceSub];rfl) ?_
   refine w_grun ?_
   refine w_gcall [0] (hdeep) ?_
   refine w_grun ?_
   refine GW.draw (.q 0 (.q 1 (.q 2 (.q 3 (.q 4 (.q 5 (.q 6 (.q 7 (.q 8 (.q 9 (.q 10 (.q 11 (.q 12 (.q 13 (.q 14 (.q 15 (.q 16 .nil))))))))))))))))) (by kernel_rfl) (by kernel_rfl) ?_
   refine w_gorun ?_
   refine w_grun ?_
   refine GW.draw (.q 0 (.q 1 (.q 2 (.q 3 (.q 4 (.q 5 (.q 6 (.q 7 (.q 8 (.q 9 (.a 10 (.a 11 .nil)))))))))))) (by kernel_rfl) (by kernel_rfl) ?_
   refine w_gorun ?_
   refine w_grun ?_
   by_cases k1:tk.kind=1
   ·rw [if_pos k1] at h
    cases h
    have k1':(tk.kind==1)=true:=by simpa using k1
    refine w_grun ?_
    refine w_gretcl ?_
    exact ⟨_,w_gle,rfl,rfl⟩
   ·rw [if_neg k1] at h
    have k1':(tk.kind==1)=false:=by simpa using k1
    by_cases k2:tk.kind=2
    ·rw [if_pos k2] at h
     have k2':(tk.kind==2)=true:=by simpa using k2
     refine w_grun ?_
     refine w_gcall [0] (l08Name_g p1 hpd) ?_
     refine w_grun ?_
     refine w_gcall [0] (C.named tk.at_ p1.name.1 d p1.name.2 t q ((to_name hpd).ok hpd) (by omega) h) ?_
     refine w_grun ?_
     refine w_gretc ?_
     exact ⟨rfl,rfl⟩
    ·rw [if_neg k2] at h
     have k2':(tk.kind==2)=false:=by simpa using k2
     by_cases s3:tk.s=[45]∨tk.s=[33]∨tk.s=[126]
     ·rw [if_pos s3] at h
      cases he:mE f (.operand (d+1)) p1.next with
      | none=>rw [he] at h;cases h
      | some r =>
       obtain ⟨a,p2⟩:=r
       rw [he] at h
       cases h
       have s3':(tk.s==[45])=true∨((tk.s==[45])=false∧(tk.s==[33])=true)∨((tk.s==[45])=false∧(tk.s==[33])=false∧(tk.s==[126])=true):=by
        rcases s3 with s3 | s3 | s3
        ·exact .inl (by simp [s3])
        ·exact .inr (.inl (by simp [s3]))
        ·exact .inr (.inr (by simp [s3]))
       refine w_grun ?_
       rcases s3' with e1 | ⟨e1,e2⟩ | ⟨e1,e2,e3⟩
       all_goals
        refine w_grun ?_
        refine GW.draw (.q 0 (.q 1 (.q 2 (.q 3 (.q 4 (.q 5 (.q 6 (.a 7 (.a 8 (.a 9 (.a 10 .nil))))))))))) (by kernel_rfl) (by kernel_rfl) ?_
        refine w_gorun ?_
        refine w_gocall [0] (C.operand (d+1) p1.next a q hpn (by omega) he) ?_
        refine w_gorun ?_
        refine w_gomk ?_
        refine w_gorun ?_
        refine w_gocall [] (l08One_g 5 tk.at_ tk.s [a] _ w_enc) ?_
        refine w_gost ?_
        refine w_gorun ?_
        refine w_grun ?_
        refine w_gretc ?_
        exact ⟨rfl,rfl⟩
     ·rw [if_neg s3] at h
      have e1:(tk.s==[45])=false:=by simp at s3;simpa using s3.1
      have e2:(tk.s==[33])=false:=by simp at s3;simpa using s3.2.1
      have e3:(tk.s==[126])=false:=by simp at s3;simpa using s3.2.2
      by_cases s4:tk.s=[40]
      ·rw [if_pos s4] at h
       have s4':(tk.s==[40])=true:=by simp [s4]
       cases he:mE f (.expr (d+1)) p1.next with
       | none=>rw [he] at h;cases h
       | some r =>
        obtain ⟨a,p2⟩:=r
        rw [he] at h
        cases h
        have hp2:=((mE_to f).1 _ _ _ _ hpn he).ok hpn
        refine w_grun ?_
        refine w_gcall [0] (C.expr (d+1) p1.next t p2 hpn (by omega) he) ?_
        refine w_grun ?_
        refine w_gcall [0] (l08Must_g p2 [41] hp2 (by decide)) ?_
        refine w_grun ?_
        refine w_gretc ?_
        exact ⟨rfl,rfl⟩
      ·rw [if_neg s4] at h
       have s4':(tk.s==[40])=false:=by simpa using s4
       cases h
       refine w_grun ?_
       refine w_gcall [0] (l08Fail_g p1 7 tk.at_) ?_
       refine w_grun ?_
       refine w_gretcl ?_
       exact ⟨_,w_gle,rfl,rfl⟩
 ·rw [if_neg hc] at h
  have hc':(p1.code != 0)=true:=by simpa using hc
  cases h
  refine GC.enter Tryz.func233 Tryz.ntmps233 rfl (by simp only [gframe,grep,Nat.reduceSub];rfl) ?_
  refine w_grun ?_
  refine w_gcall [0] (hdeep) ?_
  refine w_grun ?_
  refine GW.draw (.q 0 (.q 1 (.q 2 (.q 3 (.q 4 (.q 5 (.q 6 (.q 7 (.q 8 (.q 9 (.q 10 (.q 11 (.q 12 (.q 13 (.q 14 (.q 15 (.q 16 .nil))))))))))))))))) (by kernel_rfl) (by kernel_rfl) ?_
  refine w_gorun ?_
  refine w_grun ?_
  refine w_gcall [0] (l08Place_g p1 hpd) ?_
  refine w_grun ?_
  refine w_gcall [0] (l08Fail_g p1 7 p1.place) ?_
  refine w_grun ?_
  refine w_gretcl ?_
  exact ⟨_,w_gle,rfl,rfl⟩
theorem rds (f:Nat):Rds f:=by
  induction f using Nat.strongRecOn with
  | _ f ih =>
   cases f with
   | zero=>exact ⟨fun d p t q _ _ h=>by simp [mE] at h,fun k d p t q _ _ _ h=>by simp [mE] at h,fun d p t q _ _ h=>by simp [mE] at h,fun a s d p t q _ _ h=>by simp [mE] at h,fun d p l q _ _ h=>by simp [mL] at h⟩
   | succ f =>
    have C:=ih f (Nat.lt_succ_self f)
    have Cs:∀ f',f'≤f→Rds f':=fun f' h=>ih f' (Nat.lt_succ_of_le h)
    exact ⟨fun d p t q hp hd h=>expr_g C d p t q hp hd h,fun k d p t q hp hk hd h=>level_g Cs k d p t q hp hk hd h,fun d p t q hp hd h=>operand_g C d p t q hp hd h,fun a s d p t q hp hd h=>named_g C a s d p t q hp hd h,fun d p l q hp hd h=>list_g Cs d p l q hp hd h⟩
end Go.Xg
namespace Go.Xg
open Go.RowKit Go.Xw Go.Proofs
open Go.Xp (Tok Nd T signOf one levels kwVar kwIf kwElse kwWhile kwReturn)
open Go.Sp
attribute [local irreducible] GW GL GO YG GC GA gthn ginb
structure Sds (f:Nat):Prop where
 block:∀ d p t q,p.ok→d+f≤1099511627776→mS f (.block d) p=some (t,q)→GF Tryz.prog 136 [.loc 0 0,.v (ii (d:Nat))] [encRS p] (.agg (cT t)) [encRS q]
 stmt:∀ d p t q,p.ok→d+f≤1099511627776→mS f (.stmt d) p=some (t,q)→GF Tryz.prog 182 [.loc 0 0,.v (ii (d:Nat))] [encRS p] (.agg (cT t)) [encRS q]
 cond:∀ a d p t q,p.ok→p.i < p.l.length→d+f≤1099511627776→mS f (.cond a d) p=some (t,q)→GF Tryz.prog 215 [.loc 0 0,.v (ii a),.v (ii (d:Nat))] [encRS p] (.agg (cT t)) [encRS q]
theorem mX_g (d:Nat) (p:RS) (t:T) (q:RS) (hp:p.ok) (hd:d≤1099511627777) (h:mX d p=some (t,q)):GF Tryz.prog 214 [.loc 0 0,.v (ii (d:Nat))] [encRS p] (.agg (cT t)) [encRS q] :=
 (rds (fe p)).expr d p t q hp (by have:=hp.2;unfold fe;omega) h
theorem l08One_nil (k a:Int) (s:Str):GF Tryz.prog 180 [.v (ii k),.v (ii a),.v (sv s),.v (.slice none 0 0)] [] (.agg [.v (ii k),.v (ii a),.v (ii 0),.v (sv s),ints [],.v (.slice none 0 0)]) []:=by
 refine GC.enter Tryz.func180 Tryz.ntmps180 rfl (by simp only [gframe,grep,Nat.reduceSub];rfl) ?_
 refine w_grun ?_
 refine w_gretcl ?_
 exact ⟨_,w_gle,rfl,rfl⟩
theorem block_g {f:Nat} (C:∀ f',f'≤f→Sds f') (d:Nat) (p:RS) (t:T) (q:RS) (hp:p.ok) (hd:d+(f+1)≤1099511627776) (h:mS (f+1) (.block d) p=some (t,q)) :
  GF Tryz.prog 136 [.loc 0 0,.v (ii (d:Nat))] [encRS p] (.agg (cT t)) [encRS q]:=by
 rw [mS] at h
 have hpd:=(to_deep hp d).ok hp
 have hdeep:=l08Deep_g p d hp
 generalize p.deep d=p1 at *
 try simp only at h
 have hpm:=(to_must hpd (s:=[123]) (by decide)).ok hpd
 cases he:mB f (d+1) [] (p1.must [123]) with
 | none=>rw [he] at h;cases h
 | some r =>
  obtain ⟨l,q1⟩:=r
  rw [he] at h
  cases h
  generalize hpl:p1.place=pl
  refine GC.enter Tryz.func136 Tryz.ntmps136 rfl (by simp only [gframe,grep,Nat.reduceSub];rfl) ?_
  refine w_grun ?_
  refine w_gcall [0] (hdeep) ?_
  refine w_grun ?_
  refine w_gcall [0] (l08Place_g p1 hpd) ?_
  refine w_grun ?_
  refine w_gcall [] (l08One_nil 14 p1.place []) ?_
  refine w_grun ?_
  refine w_gcall [0] (l08Must_g p1 [123] hpd (by decide)) ?_
  refine w_grun ?_
  rw [hpl]
  refine GW.wk (Wk.nilC (i:=2) (o:=5) 70 6 rfl rfl) ?_
  refine GW.loop (fun x:Nat × List T × RS=>x.1) (fun x fr Γ=>∃ n rows,fr=[.loc 0 0,.v (ii (d:Nat)),.any,.any,.loc 1 0,.loc 2 0,.any,.any,.any,.any,.any,.any,.any,.any,.any,.any,.any,.any,.any,.any,.any,.any,.any,.any,.any,.any,.any,.any,.any,.any,.any,.any,.any,.any,.any,.any]∧Γ=[encRS x.2.2,.box 70 zT,.box 70 [.v (ii 14),.v (ii pl),.v (ii 0),.v (sv []),ints [],.vec 3 n],.vec 70 6 0 rows]∧rows.length=n∧rows=encTs x.2.1∧n+x.1≤f∧x.2.2.ok∧mB x.1 (d+1) x.2.1 x.2.2=some (l,q1)) (f,[],p1.must [123]) ?_ ?_
  ·exact ⟨_,_,Wk.frm w_wkf,0,[],rfl,rfl,rfl,rfl,by simp,hpm,he⟩
  ·rintro ⟨g,acc,p⟩ _ _ ⟨n,rows,rfl,rfl,hn,hrow,hng,hp,h⟩
   simp only at hrow hng hp h
   cases g with
   | zero=>simp [mB] at h
   | succ g =>
   rw [mB] at h
   by_cases hc:p.code=0
   ·have hc':(p.code==0)=true:=by simpa using hc
    by_cases hs:p.sign 0=[125]
    ·rw [if_neg (fun hh=>hh.2 hs)] at h
     obtain ⟨rfl,rfl⟩:acc=l∧p=q1:=by simpa using h
     have hs':(!(p.sign 0==[125]))=false:=by simp [hs]
     subst hrow
     refine w_grun ?_
     refine w_gcall [0] (l08Sign_g p 0 hp (by decide)) ?_
     refine w_grun ?_
     refine w_gexit ?_
     refine w_grun ?_
     refine GL.wk (Wk.snapC (i:=2) (o:=5) rfl rfl rfl rfl hn) ?_
     refine w_gnmb ?_
     refine w_gcall [0] (l08Must_g p [125] hp (by decide)) ?_
     refine w_grun ?_
     refine w_gretc ?_
     exact ⟨rfl,rfl⟩
    ·rw [if_pos ⟨hc,hs⟩] at h
     have hs':(!(p.sign 0==[125]))=true:=by simpa using hs
     cases hb:mS g (.stmt (d+1)) p with
     | none=>rw [hb] at h;cases h
     | some r =>
      obtain ⟨a,p2⟩:=r
      rw [hb] at h
      simp only at h
      have hp2:=((mS_to g).1 _ _ _ _ hp (fun a d' h=>by cases h) hb).ok hp
      refine w_grun ?_
      refine w_gcall [0] (l08Sign_g p 0 hp (by decide)) ?_
      refine w_grun ?_
      refine GW.draw (.q 0 (.q 1 (.q 2 (.q 3 (.q 4 (.a 5 (.a 6 (.a 7 (.q 8 (.a 9 .nil)))))))))) (by kernel_rfl) (by kernel_rfl) ?_
      refine w_gorun ?_
      refine w_gocall [0] ((C g (by omega)).stmt (d+1) p a p2 hp (by omega) hb) ?_
      refine w_gorun ?_
      refine w_gomk ?_
      refine w_gorun ?_
      refine w_goapp ?_
      refine w_gorun ?_
      refine w_grun ?_
      exact ⟨(g,acc++[a],p2),⟨_,_,Wk.frm w_wkf,_,_,rfl,rfl,by simp [hn],by rw [encTs_app,hrow];rfl,by show n+1+g≤f;omega,hp2,h⟩,by simp⟩
   ·have hc':(p.code==0)=false:=by simpa using hc
    rw [if_neg (fun hh=>hc hh.1)] at h
    obtain ⟨rfl,rfl⟩:acc=l∧p=q1:=by simpa using h
    subst hrow
    refine w_grun ?_
    refine w_gexit ?_
    refine w_grun ?_
    refine GL.wk (Wk.snapC (i:=2) (o:=5) rfl rfl rfl rfl hn) ?_
    refine w_gnmb ?_
    refine w_gcall [0] (l08Must_g p [125] hp (by decide)) ?_
    refine w_grun ?_
    refine w_gretc ?_
    exact ⟨rfl,rfl⟩
theorem cond_g {f:Nat} (C:Sds f) (a:Int) (d:Nat) (p:RS) (t:T) (q:RS) (hp:p.ok) (hlt:p.i < p.l.length) (hd:d+(f+1)≤1099511627776) (h:mS (f+1) (.cond a d) p=some (t,q)) :
  GF Tryz.prog 215 [.loc 0 0,.v (ii a),.v (ii (d:Nat))] [encRS p] (.agg (cT t)) [encRS q]:=by
 rw [mS] at h
 try simp only at h
 have hpn:=(to_next hlt).ok hp
 have hpl:=hp.2
 have hpm:=(to_must hpn (s:=[40]) (by decide)).ok hpn
 cases he:mX (d+1) (p.next.must [40]) with
 | none=>rw [he] at h;cases h
 | some r =>
 obtain ⟨e,p1⟩:=r
 rw [he] at h
 simp only at h
 have hp1:=(mX_to hpm he).ok hpm
 have hp1m:=(to_must hp1 (s:=[41]) (by decide)).ok hp1
 cases hb:mS f (.block (d+1)) (p1.must [41]) with
 | none=>rw [hb] at h;cases h
 | some r =>
 obtain ⟨b,p2⟩:=r
 rw [hb] at h
 simp only at h
 have hp2:=((mS_to f).1 _ _ _ _ hp1m (fun a d' h=>by cases h) hb).ok hp1m
 have hp2l:=hp2.2
 have key:∀ k:Int,(if k=9∧p2.sign 0=kwElse then match mS f (.block (d+1)) p2.next with
     | none=>none
     | some (b2,q)=>some (one k a [] [e,b,b2],q)
    else some (one k a [] [e,b],p2))=some (t,q)→p.ck=k→(k=9∨k=10)→((p.sign 0==[105,102])=true∧k=9)∨((p.sign 0==[105,102])=false∧k=10):=by
  intro k _ hk _
  unfold RS.ck at hk
  split at hk
  ·rename_i hs;exact .inl ⟨by rw [hs];rfl,hk.symm⟩
  ·rename_i hs
   refine .inr ⟨?_,hk.symm⟩
   cases hq:(p.sign 0==[105,102]) with
   | false=>rfl
   | true=>exact absurd (eq_of_beq hq) hs
 have hck:p.ck=9∨p.ck=10:=by unfold RS.ck;split <;> simp
 have key:=key p.ck h rfl hck
 generalize p.ck=k at h key
 clear hck
 rcases key with ⟨hs,rfl⟩ | ⟨hs,rfl⟩
 ·by_cases hel:p2.sign 0=kwElse
  ·rw [if_pos ⟨rfl,hel⟩] at h
   have hel':(p2.sign 0==[101,108,115,101])=true:=by rw [hel];rfl
   have hlt2:=(sign_lt hel (by decide)).1
   have hp2n:=(to_sign hel (by decide)).ok hp2
   cases hb2:mS f (.block (d+1)) p2.next with
   | none=>rw [hb2] at h;cases h
   | some r =>
   obtain ⟨b2,p3⟩:=r
   rw [hb2] at h
   cases h
   refine GC.enter Tryz.func215 Tryz.ntmps215 rfl (by simp only [gframe,grep,Nat.reduceSub];rfl) ?_
   refine w_grun ?_
   refine w_gcall [0] (l08Sign_g p 0 hp (by decide)) ?_
   refine w_grun ?_
   refine w_gcall [0] (l08Must_g p.next [40] hpn (by decide)) ?_
   refine w_grun ?_
   refine w_gcall [0] (mX_g (d+1) _ e p1 hpm (by omega) he) ?_
   refine w_grun ?_
   refine w_gcall [0] (l08Must_g p1 [41] hp1 (by decide)) ?_
   refine w_grun ?_
   refine GW.draw (.q 0 (.q 1 (.q 2 (.q 3 (.a 4 (.a 5 (.q 6 .nil))))))) (by kernel_rfl) (by kernel_rfl) ?_
   refine w_gorun ?_
   refine w_gocall [0] (C.block (d+1) _ b p2 hp1m (by omega) hb) ?_
   refine w_gorun ?_
   refine w_gomkv ?_
   refine w_gorun ?_
   refine w_grun ?_
   refine w_gcall [0] (l08Sign_g p2 0 hp2 (by decide)) ?_
   refine w_grun ?_
   refine w_gcall [0] (C.block (d+1) _ b2 q hp2n (by omega) hb2) ?_
   refine w_gpush ?_
   refine w_grun ?_
   refine GL.wk (Wk.snap (t:=57) rfl rfl rfl rfl) ?_
   refine w_gnmb ?_
   refine w_gcall [] (l08One_g 9 a [] [e,b,b2] _ w_enc) ?_
   refine w_grun ?_
   refine w_gretc ?_
   exact ⟨rfl,rfl⟩
  ·rw [if_neg (fun hh=>hel hh.2)] at h
   have hel':(p2.sign 0==[101,108,115,101])=false:=by
    cases hq:(p2.sign 0==[101,108,115,101]) with
    | false=>rfl
    | true=>exact absurd (eq_of_beq hq) hel
   cases h
   refine GC.enter Tryz.func215 Tryz.ntmps215 rfl (by simp only [gframe,grep,Nat.reduceSub];rfl) ?_
   refine w_grun ?_
   refine w_gcall [0] (l08Sign_g p 0 hp (by decide)) ?_
   refine w_grun ?_
   refine w_gcall [0] (l08Must_g p.next [40] hpn (by decide)) ?_
   refine w_grun ?_
   refine w_gcall [0] (mX_g (d+1) _ e p1 hpm (by omega) he) ?_
   refine w_grun ?_
   refine w_gcall [0] (l08Must_g p1 [41] hp1 (by decide)) ?_
   refine w_grun ?_
   refine GW.draw (.q 0 (.q 1 (.q 2 (.q 3 (.a 4 (.a 5 (.q 6 .nil))))))) (by kernel_rfl) (by kernel_rfl) ?_
   refine w_gorun ?_
   refine w_gocall [0] (C.block (d+1) _ b q hp1m (by omega) hb) ?_
   refine w_gorun ?_
   refine w_gomkv ?_
   refine w_gorun ?_
   refine w_grun ?_
   refine w_gcall [0] (l08Sign_g q 0 hp2 (by decide)) ?_
   refine w_grun ?_
   refine GL.wk (Wk.snap (t:=57) rfl rfl rfl rfl) ?_
   refine w_gnmb ?_
   refine w_gcall [] (l08One_g 9 a [] [e,b] _ w_enc) ?_
   refine w_grun ?_
   refine w_gretc ?_
   exact ⟨rfl,rfl⟩
 ·rw [if_neg (fun hh=>by cases hh.1)] at h
  cases h
  refine GC.enter Tryz.func215 Tryz.ntmps215 rfl (by simp only [gframe,grep,Nat.reduceSub];rfl) ?_
  refine w_grun ?_
  refine w_gcall [0] (l08Sign_g p 0 hp (by decide)) ?_
  refine w_grun ?_
  refine w_gcall [0] (l08Must_g p.next [40] hpn (by decide)) ?_
  refine w_grun ?_
  refine w_gcall [0] (mX_g (d+1) _ e p1 hpm (by omega) he) ?_
  refine w_grun ?_
  refine w_gcall [0] (l08Must_g p1 [41] hp1 (by decide)) ?_
  refine w_grun ?_
  refine GW.draw (.q 0 (.q 1 (.q 2 (.q 3 (.a 4 (.a 5 (.q 6 .nil))))))) (by kernel_rfl) (by kernel_rfl) ?_
  refine w_gorun ?_
  refine w_gocall [0] (C.block (d+1) _ b q hp1m (by omega) hb) ?_
  refine w_gorun ?_
  refine w_gomkv ?_
  refine w_gorun ?_
  refine w_grun ?_
  refine GL.wk (Wk.snap (t:=57) rfl rfl rfl rfl) ?_
  refine w_gnmb ?_
  refine w_gcall [] (l08One_g 10 a [] [e,b] _ w_enc) ?_
  refine w_grun ?_
  refine w_gretc ?_
  exact ⟨rfl,rfl⟩
end Go.Xg
namespace Go.Xg
open Go.RowKit Go.Xw Go.Proofs
open Go.Xp (Tok Nd T signOf one levels kwVar kwIf kwElse kwWhile kwReturn)
open Go.Sp
attribute [local irreducible] GW GL GO YG GC GA gthn ginb
theorem beq_no {s t:Str} (h:¬ s=t):(s==t)=false:=by
 cases hq:(s==t) with
 | false=>rfl
 | true=>exact absurd (eq_of_beq hq) h
theorem stmt_g {f:Nat} (C:Sds f) (d:Nat) (p:RS) (t:T) (q:RS) (hp:p.ok) (hd:d+(f+1)≤1099511627776) (h:mS (f+1) (.stmt d) p=some (t,q)) :
  GF Tryz.prog 182 [.loc 0 0,.v (ii (d:Nat))] [encRS p] (.agg (cT t)) [encRS q]:=by
 rw [mS] at h
 have hpd:=(to_deep hp d).ok hp
 have hdeep:=l08Deep_g p d hp
 generalize p.deep d=p1 at *
 try simp only at h
 obtain ⟨hpi,hpl⟩:=id hpd
 generalize hat:p1.place=at_ at h
 refine GC.enter Tryz.func182 Tryz.ntmps182 rfl (by simp only [gframe,grep,Nat.reduceSub];rfl) ?_
 refine w_grun ?_
 refine w_gcall [0] (hdeep) ?_
 refine w_grun ?_
 refine w_gcall [0] (l08Place_g p1 hpd) ?_
 refine w_grun ?_
 refine w_gcall [0] (l08Sign_g p1 0 hpd (by decide)) ?_
 rw [hat]
 by_cases h1:p1.sign 0=kwVar
 ·rw [if_pos h1] at h
  have e1:(p1.sign 0==[118,97,114])=true:=by rw [h1];rfl
  have hlt:=(sign_lt h1 (by decide)).1
  have hn:=(to_sign h1 (by decide)).ok hpd
  have hnm:=(to_name hn).ok hn
  have hmu:=(to_must hnm (s:=[61]) (by decide)).ok hnm
  cases he:mX (d+1) (p1.next.name.2.must [61]) with
  | none=>rw [he] at h;cases h
  | some r =>
  obtain ⟨e,p2⟩:=r
  rw [he] at h
  cases h
  have hp2:=(mX_to hmu he).ok hmu
  refine w_grun ?_
  refine w_gcall [0] (l08Name_g p1.next hn) ?_
  refine w_grun ?_
  refine w_gcall [0] (l08Must_g _ [61] hnm (by decide)) ?_
  refine w_grun ?_
  refine w_gcall [0] (mX_g (d+1) _ e p2 hmu (by omega) he) ?_
  refine w_grun ?_
  refine w_gcall [0] (l08Must_g p2 [59] hp2 (by decide)) ?_
  refine w_grun ?_
  refine w_gmk ?_
  refine w_grun ?_
  refine w_gcall [] (l08One_g 13 at_ p1.next.name.1 [e] _ w_enc) ?_
  refine w_grun ?_
  refine w_gretc ?_
  exact ⟨rfl,rfl⟩
 rw [if_neg h1] at h
 have e1:(p1.sign 0==[118,97,114])=false:=beq_no h1
 by_cases h2:p1.sign 0=kwIf∨p1.sign 0=kwWhile
 ·rw [if_pos h2] at h
  have e2:(p1.sign 0==[105,102])=true∨((p1.sign 0==[105,102])=false∧(p1.sign 0==[119,104,105,108,101])=true):=by
   rcases h2 with h2 | h2
   ·exact .inl (by rw [h2];rfl)
   ·exact .inr ⟨by rw [h2];rfl,by rw [h2];rfl⟩
  have hlt:p1.i < p1.l.length:=by
   rcases h2 with h2 | h2
   ·exact (sign_lt h2 (by decide)).1
   ·exact (sign_lt h2 (by decide)).1
  rcases e2 with e2 | ⟨e2,e3⟩
  all_goals
   refine w_grun ?_
   refine w_gcall [0] (C.cond at_ d p1 t q hpd hlt (by omega) h) ?_
   refine w_grun ?_
   refine w_gretc ?_
   exact ⟨rfl,rfl⟩
 rw [if_neg h2] at h
 have e2:(p1.sign 0==[105,102])=false:=beq_no fun hh=>h2 (.inl hh)
 have e3:(p1.sign 0==[119,104,105,108,101])=false:=beq_no fun hh=>h2 (.inr hh)
 by_cases h4:p1.sign 0=kwReturn
 ·rw [if_pos h4] at h
  have e4:(p1.sign 0==[114,101,116,117,114,110])=true:=by rw [h4];rfl
  have hlt:=(sign_lt h4 (by decide)).1
  have hn:=(to_sign h4 (by decide)).ok hpd
  cases he:mX (d+1) p1.next with
  | none=>rw [he] at h;cases h
  | some r =>
  obtain ⟨e,p2⟩:=r
  rw [he] at h
  cases h
  have hp2:=(mX_to hn he).ok hn
  refine w_grun ?_
  refine w_gcall [0] (mX_g (d+1) _ e p2 hn (by omega) he) ?_
  refine w_grun ?_
  refine w_gcall [0] (l08Must_g p2 [59] hp2 (by decide)) ?_
  refine w_grun ?_
  refine w_gmk ?_
  refine w_grun ?_
  refine w_gcall [] (l08One_g 11 at_ [] [e] _ w_enc) ?_
  refine w_grun ?_
  refine w_gretc ?_
  exact ⟨rfl,rfl⟩
 rw [if_neg h4] at h
 have e4:(p1.sign 0==[114,101,116,117,114,110])=false:=beq_no h4
 by_cases h5:p1.code=0∧p1.isName=true∧p1.sign 1=[61]
 ·rw [if_pos h5] at h
  obtain ⟨hc,hnm0,hs1⟩:=h5
  have hc':(p1.code==0)=true:=by simpa using hc
  have hs1':(p1.sign 1==[61])=true:=by rw [hs1];rfl
  unfold RS.isName at hnm0
  cases ht:p1.l[p1.i]? with
  | none=>rw [ht] at hnm0;cases hnm0
  | some tk =>
  rw [ht] at hnm0
  have hk:(tk.kind==2)=true:=by simpa using hnm0
  have hlt:=(List.getElem?_eq_some_iff.1 ht).1
  have hlt':decide ((p1.i:Int) < ((p1.l.map encTok).length:Int))=true:=by simpa using hlt
  have hr:=row_tok ht
  have hnm:=(to_name hpd).ok hpd
  have hmu:=(to_must hnm (s:=[61]) (by decide)).ok hnm
  cases he:mX (d+1) (p1.name.2.must [61]) with
  | none=>rw [he] at h;cases h
  | some r =>
  obtain ⟨e,p2⟩:=r
  rw [he] at h
  cases h
  have hp2:=(mX_to hmu he).ok hmu
  refine w_grun ?_
  refine GW.draw (.q 0 (.q 1 (.q 2 (.q 3 (.q 4 (.q 5 (.q 6 (.q 7 (.q 8 (.q 9 (.q 10 (.q 11 (.q 12 (.q 13 (.q 14 (.q 15 (.q 16 (.q 17 (.q 18 (.q 19 (.q 20 (.q 21 (.q 22 (.q 23 (.q 24 (.q 25 (.q 26 (.q 27 (.q 28 (.q 29 (.q 30 (.q 31 (.q 32 (.a 33 (.q 34 (.q 35 .nil)))))))))))))))))))))))))))))))))))) (by kernel_rfl) (by kernel_rfl) ?_
  refine w_gorun ?_
  refine w_gotcall [0] (l08Sign_g p1 1 hpd (by decide)) ?_
  refine w_gorun ?_
  refine w_grun ?_
  refine w_gcall [0] (l08Name_g p1 hpd) ?_
  refine w_grun ?_
  refine w_gcall [0] (l08Must_g _ [61] hnm (by decide)) ?_
  refine w_grun ?_
  refine w_gcall [0] (mX_g (d+1) _ e p2 hmu (by omega) he) ?_
  refine w_grun ?_
  refine w_gcall [0] (l08Must_g p2 [59] hp2 (by decide)) ?_
  refine w_grun ?_
  refine w_gmk ?_
  refine w_grun ?_
  refine w_gcall [] (l08One_g 7 at_ p1.name.1 [e] _ w_enc) ?_
  refine w_grun ?_
  refine w_gretc ?_
  exact ⟨rfl,rfl⟩
 rw [if_neg h5] at h
 cases he:mX (d+1) p1 with
 | none=>rw [he] at h;cases h
 | some r =>
 obtain ⟨e,p2⟩:=r
 rw [he] at h
 simp only at h
 have hp2:=(mX_to hpd he).ok hpd
 have hp2l:=hp2.2
 have hway:(p1.code==0)=false∨((p1.code==0)=true∧p1.l.length≤p1.i)∨((p1.code==0)=true∧∃ tk,p1.l[p1.i]?=some tk∧((tk.kind==2)=false∨((tk.kind==2)=true∧(p1.sign 1==[61])=false))):=by
  by_cases hc:p1.code=0
  ·refine .inr ?_
   have hc':(p1.code==0)=true:=by simpa using hc
   cases ht:p1.l[p1.i]? with
   | none=>exact .inl ⟨hc',List.getElem?_eq_none_iff.1 ht⟩
   | some tk =>
    refine .inr ⟨hc',tk,rfl,?_⟩
    by_cases hk:tk.kind=2
    ·refine .inr ⟨by simpa using hk,beq_no fun h61=>h5 ⟨hc,?_,h61⟩⟩
     unfold RS.isName;rw [ht];simpa using hk
    ·exact .inl (by simpa using hk)
  ·exact .inl (by simpa using hc)
 refine w_grun ?_
 refine GW.join (fun fr Γ=>fr=[.loc 0 0,.v (ii (d:Nat)),.any,.any,.loc 1 0,.v (ii at_),.any,.any,.any,.any,.any,.any,.any,.any,.any,.any,.any,.any,.any,.any,.any,.any,.any,.any,.any,.any,.any,.any,.any,.any,.any,.any,.any,.any,.any,.any,.any,.any,.any,.any,.any,.any,.any,.any,.any,.any,.any,.any,.any,.any,.any,.any,.any,.any,.any,.any,.any,.any,.any,.any,.any,.any,.any,.any,.any,.any,.any,.any,.any,.any,.any,.any,.any,.any,.any,.any,.any,.any,.any,.any,.any,.any,.any,.any,.any,.any,.any,.any,.any,.any,.any,.any,.any,.any,.any,.any,.any,.any,.any,.any,.any,.any,.any,.any,.any,.v (.bool false),.any,.any,.any,.any,.any,.any,.any,.any,.any,.any,.any,.any,.any,.any,.any,.any,.any,.any,.any,.any,.any,.any,.any,.any,.any,.any,.any,.any,.any,.any,.any,.any,.any,.any,.any,.any,.any,.any,.any,.any,.any,.any,.any,.any,.any,.any,.any,.any,.any,.any,.any,.any,.any,.any,.any,.any,.any,.any,.any,.any,.any,.any,.any,.any,.any]∧Γ=[encRS p1,.box 70 zT]) ?_ ?_
 ·rcases hway with hc' | ⟨hc',hge⟩ | ⟨hc',tk,ht,hk | ⟨hk,hs1⟩⟩
  ·refine GW.draw (.q 0 (.q 1 (.q 2 (.q 3 (.q 4 (.q 5 (.q 6 (.q 7 (.q 8 (.q 9 (.q 10 (.q 11 (.q 12 (.q 13 (.q 14 (.q 15 (.q 16 (.q 17 (.q 18 (.q 19 (.q 20 (.q 21 (.q 22 (.q 23 (.q 24 (.q 25 (.q 26 (.q 27 (.q 28 (.q 29 (.q 30 (.q 31 (.q 32 (.a 33 (.q 34 (.q 35 .nil)))))))))))))))))))))))))))))))))))) (by kernel_rfl) (by kernel_rfl) ?_
   refine w_gorun ?_
   exact gthn_n ⟨_,_,Wk.frm w_wkf,rfl,rfl⟩
  ·have hlt':decide ((p1.i:Int) < ((p1.l.map encTok).length:Int))=false:=by simpa using hge
   refine GW.draw (.q 0 (.q 1 (.q 2 (.q 3 (.q 4 (.q 5 (.q 6 (.q 7 (.q 8 (.q 9 (.q 10 (.q 11 (.q 12 (.q 13 (.q 14 (.q 15 (.q 16 (.q 17 (.q 18 (.q 19 (.q 20 (.q 21 (.q 22 (.q 23 (.q 24 (.q 25 (.q 26 (.q 27 (.q 28 (.q 29 (.q 30 (.q 31 (.q 32 (.a 33 (.q 34 (.q 35 .nil)))))))))))))))))))))))))))))))))))) (by kernel_rfl) (by kernel_rfl) ?_
   refine w_gorun ?_
   exact gthn_n ⟨_,_,Wk.frm w_wkf,rfl,rfl⟩
  ·have hlt:=(List.getElem?_eq_some_iff.1 ht).1
   have hlt':decide ((p1.i:Int) < ((p1.l.map encTok).length:Int))=true:=by simpa using hlt
   have hr:=row_tok ht
   refine GW.draw (.q 0 (.q 1 (.q 2 (.q 3 (.q 4 (.q 5 (.q 6 (.q 7 (.q 8 (.q 9 (.q 10 (.q 11 (.q 12 (.q 13 (.q 14 (.q 15 (.q 16 (.q 17 (.q 18 (.q 19 (.q 20 (.q 21 (.q 22 (.q 23 (.q 24 (.q 25 (.q 26 (.q 27 (.q 28 (.q 29 (.q 30 (.q 31 (.q 32 (.a 33 (.q 34 (.q 35 .nil)))))))))))))))))))))))))))))))))))) (by kernel_rfl) (by kernel_rfl) ?_
   refine w_gorun ?_
   exact gthn_n ⟨_,_,Wk.frm w_wkf,rfl,rfl⟩
  ·have hlt:=(List.getElem?_eq_some_iff.1 ht).1
   have hlt':decide ((p1.i:Int) < ((p1.l.map encTok).length:Int))=true:=by simpa using hlt
   have hr:=row_tok ht
   refine GW.draw (.q 0 (.q 1 (.q 2 (.q 3 (.q 4 (.q 5 (.q 6 (.q 7 (.q 8 (.q 9 (.q 10 (.q 11 (.q 12 (.q 13 (.q 14 (.q 15 (.q 16 (.q 17 (.q 18 (.q 19 (.q 20 (.q 21 (.q 22 (.q 23 (.q 24 (.q 25 (.q 26 (.q 27 (.q 28 (.q 29 (.q 30 (.q 31 (.q 32 (.a 33 (.q 34 (.q 35 .nil)))))))))))))))))))))))))))))))))))) (by kernel_rfl) (by kernel_rfl) ?_
   refine w_gorun ?_
   refine w_gotcall [0] (l08Sign_g p1 1 hpd (by decide)) ?_
   refine w_gorun ?_
   exact gthn_n ⟨_,_,Wk.frm (by repeat (first | exact WkF.nil | refine WkF.any ?_ | refine WkF.eq rfl ?_ | refine WkF.eq (by rw [hs1]) ?_)),rfl,rfl⟩
 ·rintro _ _ ⟨rfl,rfl⟩
  refine w_grun ?_
  refine w_gcall [0] (mX_g (d+1) _ e p2 hpd (by omega) he) ?_
  refine w_grun ?_
  by_cases k3:e.n.kind=3
  ·have k3':(e.n.kind==3)=true:=by simpa using k3
   by_cases ka:e.n.at_=at_
   ·have ka':(e.n.at_==at_)=true:=by simpa using ka
    by_cases ks:p2.sign 0=[61]
    ·have ks':(p2.sign 0==[61])=true:=by rw [ks];rfl
     rw [if_pos ⟨k3,ka,ks⟩] at h
     have hlt:=(sign_lt ks (by decide)).1
     have hn:=(to_sign ks (by decide)).ok hp2
     cases hk:e.kids with
     | nil=>rw [hk] at h;cases h
     | cons a rest =>
     cases hv:mX (d+1) p2.next with
     | none=>rw [hk,hv] at h;cases h
     | some r =>
     obtain ⟨v,p3⟩:=r
     rw [hk,hv] at h
     cases h
     have hp3:=(mX_to hn hv).ok hn
     have hr:(encTs (a::rest))[0]?=some (cT a):=by simp [encTs,encT_eq]
     refine w_grun ?_
     refine w_gcall [0] (l08Sign_g p2 0 hp2 (by decide)) ?_
     refine w_grun ?_
     refine w_gcall [0] (mX_g (d+1) _ v p3 hn (by omega) hv) ?_
     refine w_grun ?_
     refine w_gcall [0] (l08Must_g p3 [59] hp3 (by decide)) ?_
     refine w_grun ?_
     refine GW.draw (.q 0 (.q 1 (.q 2 (.q 3 (.q 4 (.q 5 (.q 6 (.q 7 (.q 8 (.a 9 (.a 10 (.a 11 .nil)))))))))))) (by kernel_rfl) (by kernel_rfl) ?_
     refine w_gorun ?_
     refine w_gomk ?_
     refine w_gorun ?_
     refine w_gocall [] (l08One_g 8 at_ e.n.s [a,v] _ w_enc) ?_
     refine w_gost ?_
     refine w_gorun ?_
     refine w_grun ?_
     refine w_gretc ?_
     exact ⟨rfl,rfl⟩
    ·have ks':(p2.sign 0==[61])=false:=beq_no ks
     rw [if_neg (fun hh=>ks hh.2.2)] at h
     cases h
     refine w_grun ?_
     refine w_gcall [0] (l08Sign_g p2 0 hp2 (by decide)) ?_
     refine w_grun ?_
     refine w_gcall [0] (l08Must_g p2 [59] hp2 (by decide)) ?_
     refine w_grun ?_
     refine w_gmk ?_
     refine w_grun ?_
     refine w_gcall [] (l08One_g 12 at_ [] [e] _ w_enc) ?_
     refine w_grun ?_
     refine w_gretc ?_
     exact ⟨rfl,rfl⟩
   ·have ka':(e.n.at_==at_)=false:=by simpa using ka
    rw [if_neg (fun hh=>ka hh.2.1)] at h
    cases h
    refine w_grun ?_
    refine w_gcall [0] (l08Must_g p2 [59] hp2 (by decide)) ?_
    refine w_grun ?_
    refine w_gmk ?_
    refine w_grun ?_
    refine w_gcall [] (l08One_g 12 at_ [] [e] _ w_enc) ?_
    refine w_grun ?_
    refine w_gretc ?_
    exact ⟨rfl,rfl⟩
  ·have k3':(e.n.kind==3)=false:=by simpa using k3
   rw [if_neg (fun hh=>k3 hh.1)] at h
   cases h
   refine w_grun ?_
   refine w_gcall [0] (l08Must_g p2 [59] hp2 (by decide)) ?_
   refine w_grun ?_
   refine w_gmk ?_
   refine w_grun ?_
   refine w_gcall [] (l08One_g 12 at_ [] [e] _ w_enc) ?_
   refine w_grun ?_
   refine w_gretc ?_
   exact ⟨rfl,rfl⟩
theorem sds (f:Nat):Sds f:=by
 induction f using Nat.strongRecOn with
 | _ f ih =>
  cases f with
  | zero=>exact ⟨fun d p t q _ _ h=>by simp [mS] at h,fun d p t q _ _ h=>by simp [mS] at h,fun a d p t q _ _ _ h=>by simp [mS] at h⟩
  | succ f =>
   have C:=ih f (Nat.lt_succ_self f)
   have Cs:∀ f',f'≤f→Sds f':=fun f' h=>ih f' (Nat.lt_succ_of_le h)
   exact ⟨fun d p t q hp hd h=>block_g Cs d p t q hp hd h,fun d p t q hp hd h=>stmt_g C d p t q hp hd h,fun a d p t q hp hl hd h=>cond_g C a d p t q hp hl hd h⟩
end Go.Xg
namespace Go.Xg
open Go.RowKit Go.Xw Go.Proofs
open Go.Xp (Tok Nd T signOf one levels Ar)
open Go.Sp
attribute [local irreducible] GW GL GO YG GC GA gthn ginb
def encNode (n:Nd):List GV:=[.v (ii n.kind),.v (ii n.at_),.v (ii n.n),.v (sv n.s),ints n.kids]
def encFn (f:Go.Sp.Fn):List GV:=[.v (sv f.name),strs f.params,.v (ii f.body)]
def encAr (a:Ar):List GV:=[.v (sv a.name),.v (ii a.size)]
abbrev encSrc (p:Src):List GV:=[strs p.globals,.sl 2 (p.arrays.map encAr),.sl 3 (p.fns.map encFn),.sl 5 (p.nodes.map encNode)]
theorem l08IsExpr_g (k:Int):GF Tryz.prog 39 [.v (ii k)] [] (.v (.bool (isExpr k))) []:=by
 unfold isExpr
 refine GC.enter Tryz.func39 Tryz.ntmps39 rfl (by simp only [gframe,grep,Nat.reduceSub];rfl) ?_
 cases h:decide ((1:Int)≤k)
 all_goals
  refine w_grun ?_
  refine w_gret ?_
  exact ⟨rfl,rfl⟩
theorem l08IsStmt_g (k:Int):GF Tryz.prog 209 [.v (ii k)] [] (.v (.bool (isStmt k))) []:=by
 unfold isStmt
 refine GC.enter Tryz.func209 Tryz.ntmps209 rfl (by simp only [gframe,grep,Nat.reduceSub];rfl) ?_
 cases h:decide ((7:Int)≤k)
 all_goals
  refine w_grun ?_
  refine w_gret ?_
  exact ⟨rfl,rfl⟩
theorem l08AnySign_g (s:Str):GF Tryz.prog 208 [.v (sv s)] [] (.v (.bool (anySign s))) []:=by
 refine GC.enter Tryz.func208 Tryz.ntmps208 rfl (by simp only [gframe,grep,Nat.reduceSub];rfl) ?_
 refine w_grun ?_
 refine w_gcall [] (l08Levels_g) ?_
 refine w_grun ?_
 refine GW.range (levels.map fun l=>[strs l]).length (fun k fr Γ=>fr=[.v (sv s),.any,.any,.any,.any,.sl 1 (levels.map fun l=>[strs l]),.v (ii ((levels.map fun l=>[strs l]).length:Int)),.v (ii (k:Nat)),.any,.any,.any,.any,.any,.any,.any]∧Γ=[]∧((levels.take k).any fun l=>l.contains s)=false) ?_ (by decide) ?_ ?_ ?_
 ·exact ⟨_,_,Wk.frm w_wkf,rfl,rfl,rfl⟩
 ·rintro k _ _ ⟨rfl,rfl,_⟩;exact ⟨rfl,rfl,rfl⟩
 ·rintro k _ _ hk ⟨rfl,rfl,hf⟩
  have hk:k < levels.length:=by simpa using hk
  have hx:levels[k]?=some levels[k]:=by simp [hk]
  have hr:(levels.map fun l=>[strs l])[k]?=some [strs levels[k]]:=by simp [hk]
  have hxl:levels[k].length≤1099511627776:=by
   have:∀ l∈levels,l.length≤1099511627776:=by decide
   exact this _ (List.getElem_mem hk)
  generalize levels[k]=x at *
  have hh:=l07Has_g x s hxl
  cases hb:x.contains s with
  | true =>
   rw [hb] at hh
   have ha:anySign s=true:=by
    unfold anySign;rw [List.any_eq_true];exact ⟨x,List.mem_of_getElem? hx,hb⟩
   refine w_grun ?_
   refine w_gcall [] (hh) ?_
   refine w_grun ?_
   refine w_gret ?_
   rw [ha]
   exact ⟨rfl,rfl⟩
  | false =>
   rw [hb] at hh
   refine w_grun ?_
   refine w_gcall [] (hh) ?_
   refine w_grun ?_
   exact ⟨rfl,rfl,_,_,Wk.frm w_wkf,rfl,rfl,by rw [List.take_add_one,hx,List.any_append,hf];simp only [Option.toList,List.any_cons,List.any_nil,hb];rfl⟩
 ·rintro _ _ ⟨rfl,rfl,hf⟩
  have hf:anySign s=false:=by
   rw [List.take_of_length_le (by simp)] at hf;exact hf
  refine w_grun ?_
  refine w_gret ?_
  rw [hf]
  exact ⟨rfl,rfl⟩
theorem row_enc {l:List T} {i:Nat} {t:T} (h:l[i]?=some t):(encTs l)[i]?=some (cT t):=by
 induction l generalizing i with
 | nil=>simp at h
 | cons a l ih =>
  cases i with
  | zero=>cases h;simp [encTs,encT_eq]
  | succ i=>simpa [encTs] using ih (by simpa using h)
theorem l08Kinds_g (t:T) (m:Nat) (hl:t.kids.length≤1099511627776):GF Tryz.prog 207 [.agg (cT t),.v (ii (m:Nat))] [] (.v (.bool (kindsFrom m 0 t.kids))) []:=by
 refine GC.enter Tryz.func207 Tryz.ntmps207 rfl (by simp only [gframe,grep,Nat.reduceSub];rfl) ?_
 refine w_grun ?_
 refine GW.range (encTs t.kids).length (fun k fr Γ=>fr=[.any,.v (ii (m:Nat)),.any,.any,.any,.any,.any,.any,.sl 6 (encTs t.kids),.v (ii ((encTs t.kids).length:Int)),.v (ii (k:Nat)),.any,.any,.any,.any,.any,.any,.any,.any,.any,.any,.any,.any,.any,.any,.any,.any,.any,.any,.any,.any,.any,.any,.any,.any,.any,.any]∧Γ=[]∧kindsFrom m k (t.kids.drop k)=kindsFrom m 0 t.kids) ?_ (by rw [encTs_len];exact hl) ?_ ?_ ?_
 ·exact ⟨_,_,(Wk.cut (n:=0) (Nat.le_refl _) rfl).trans (Wk.frm w_wkf),rfl,rfl,rfl⟩
 ·rintro k _ _ ⟨rfl,rfl,_⟩;exact ⟨rfl,rfl,rfl⟩
 ·rintro k _ _ hk ⟨rfl,rfl,hf⟩
  have hk:k < t.kids.length:=by rw [encTs_len] at hk;exact hk
  have hx:t.kids[k]?=some t.kids[k]:=by simp [hk]
  have hr:=row_enc hx
  rw [List.drop_eq_getElem_cons hk,kindsFrom] at hf
  generalize t.kids[k]=x at *
  have he:=l08IsExpr_g x.n.kind
  by_cases hm:k < m
  ·have hm1:decide ((k:Int) < (m:Int))=true:=by simpa using hm
   have hm2:decide ((m:Int)≤(k:Int))=false:=by simpa using hm
   rw [if_pos hm] at hf
   cases hb:isExpr x.n.kind with
   | true =>
    rw [hb] at he hf
    refine w_grun ?_
    refine w_gcall [] (he) ?_
    refine w_grun ?_
    exact ⟨rfl,rfl,_,_,(Wk.cut (n:=0) (Nat.le_refl _) rfl).trans (Wk.frm w_wkf),rfl,rfl,by simpa using hf⟩
   | false =>
    rw [hb] at he hf
    refine w_grun ?_
    refine w_gcall [] (he) ?_
    refine w_grun ?_
    refine w_gret ?_
    rw [←hf]
    exact ⟨rfl,rfl⟩
  ·have hm1:decide ((k:Int) < (m:Int))=false:=by simp;omega
   have hm2:decide ((m:Int)≤(k:Int))=true:=by simp;omega
   rw [if_neg hm] at hf
   cases hb:(x.n.kind==14) with
   | true =>
    rw [hb] at hf
    have hb':(x.n.kind != 14)=false:=by simp only [bne,hb];rfl
    refine w_grun ?_
    exact ⟨rfl,rfl,_,_,(Wk.cut (n:=0) (Nat.le_refl _) rfl).trans (Wk.frm w_wkf),rfl,rfl,by simpa using hf⟩
   | false =>
    rw [hb] at hf
    have hb':(x.n.kind != 14)=true:=by simp only [bne,hb];rfl
    refine w_grun ?_
    refine w_gret ?_
    rw [←hf]
    exact ⟨rfl,rfl⟩
 ·rintro _ _ ⟨rfl,rfl,hf⟩
  rw [encTs_len,List.drop_length,kindsFrom] at hf
  refine w_grun ?_
  refine w_gret ?_
  rw [←hf]
  exact ⟨rfl,rfl⟩
theorem row_node {l:List Nd} {i:Nat} {n:Nd} (h:l[i]?=some n):(l.map encNode)[i]?=some (encNode n):=by rw [List.getElem?_map,h];rfl
theorem row_int {l:List Int} {i:Nat} {n:Int} (h:l[i]?=some n):(l.map fun i=>[GV.v (ii i)])[i]?=some [.v (ii n)]:=by rw [List.getElem?_map,h];rfl
theorem sub_g (p:Src) (hk:∀ n∈p.nodes,n.kids.length≤1000000000000):∀ (f a:Nat) (t:T),sub p.nodes f a=some t→GF Tryz.prog 41 [.agg (encSrc p),.v (ii (a:Nat))] [] (.agg (cT t)) []:=by
 intro f
 induction f using Nat.strongRecOn with
 | _ f ih =>
 intro a t h
 cases f with
 | zero=>simp [sub] at h
 | succ f =>
 rw [sub] at h
 cases hn:p.nodes[a]? with
 | none=>rw [hn] at h;cases h
 | some n =>
 rw [hn] at h
 simp only at h
 cases hs:subs p.nodes f n.kids [] with
 | none=>rw [hs] at h;cases h
 | some l =>
 rw [hs] at h
 cases h
 have hr:=row_node hn
 have hkl:=hk n (List.mem_of_getElem? hn)
 refine GC.enter Tryz.func41 Tryz.ntmps41 rfl (by simp only [gframe,grep,Nat.reduceSub];rfl) ?_
 refine w_grun ?_
 refine GW.wk (Wk.nilC (i:=2) (o:=5) 70 6 rfl rfl) ?_
 refine GW.range (n.kids.map fun i=>[GV.v (ii i)]).length (fun k fr Γ=>∃ rows acc g,fr=[.any,.v (ii (a:Nat)),.loc 0 0,.any,.loc 1 0,.loc 2 0,.any,.any,.any,.any,.any,.any,.any,.any,.any,.any,.any,.any,.any,ints n.kids,.v (ii ((n.kids.map fun i=>[GV.v (ii i)]).length:Int)),.v (ii (k:Nat)),.any,.any,.any,.any,.any,.any,.any,.any,.any,.any,.any,.any,.any] ∧
   Γ=[.box 28 (encSrc p),.box 70 zT,.box 70 [.v (ii n.kind),.v (ii n.at_),.v (ii n.n),.v (sv n.s),ints n.kids,.vec 3 k],.vec 70 6 0 rows] ∧
   rows.length=k∧rows=encTs acc∧g≤f∧subs p.nodes g (n.kids.drop k) acc=some l) ?_ (by simp;omega) ?_ ?_ ?_
 ·exact ⟨_,_,Wk.frm w_wkf,[],[],f,rfl,rfl,rfl,rfl,Nat.le_refl _,hs⟩
 ·rintro k _ _ ⟨_,_,_,rfl,rfl,_⟩;exact ⟨rfl,rfl,rfl⟩
 ·rintro k _ _ hlt ⟨rows,acc,g,rfl,rfl,hrl,hrow,hg,h⟩
  have hlt:k < n.kids.length:=by simpa using hlt
  have hx:n.kids[k]?=some n.kids[k]:=by simp [hlt]
  rw [List.drop_eq_getElem_cons hlt] at h
  generalize n.kids[k]=x at *
  cases g with
  | zero=>simp [subs] at h
  | succ g =>
  rw [subs] at h
  by_cases hx0:x < 0
  ·rw [if_pos hx0] at h;cases h
  rw [if_neg hx0] at h
  cases hst:sub p.nodes g x.toNat with
  | none=>rw [hst] at h;cases h
  | some t =>
  rw [hst] at h
  simp only at h
  have hcall:=ih g (by omega) x.toNat t hst
  rw [Int.toNat_of_nonneg (by omega)] at hcall
  have hri:=row_int hx
  refine w_grun ?_
  refine GW.draw (.q 0 (.q 1 (.q 2 (.q 3 (.a 4 (.a 5 (.a 6 (.q 7 (.a 8 .nil))))))))) (by kernel_rfl) (by kernel_rfl) ?_
  refine w_gorun ?_
  refine w_gocall [] (hcall) ?_
  refine w_gorun ?_
  refine w_gomk ?_
  refine w_gorun ?_
  refine w_goapp ?_
  refine w_gorun ?_
  refine w_grun ?_
  exact ⟨rfl,rfl,_,_,Wk.frm w_wkf,_,acc++[t],g,rfl,rfl,by rw [List.length_append,hrl];rfl,by rw [encTs_app,hrow];rfl,by omega,h⟩
 ·rintro _ _ ⟨rows,acc,g,rfl,rfl,hrl,hrow,hg,h⟩
  rw [List.length_map,List.drop_length] at h
  have hacc:acc=l:=by cases g <;> (rw [subs] at h;cases h;rfl)
  subst hacc;subst hrow
  refine gthn_n (GW.wk (Wk.snapC (i:=2) (o:=5) rfl rfl rfl rfl hrl) ?_)
  refine w_grun ?_
  refine w_gretc ?_
  exact ⟨rfl,rfl⟩
end Go.Xg
