/- Part 6 of proofs that are told in their last texts. -/
import Derived.Test.YtcoplmnahnipiaaGreatDoorY5
import Derived.Laws.OwnMore
import Derived.Test.YtcoplmnahnipiaaGreatDoorY2
import Derived.Test.YtcoplmnahnipiaaGreatDoorY3
import Derived.Lib.SlicesCompact
open List (any_eq_false append_nil cons_append flatten_cons getElem?_append_right getElem?_eq_getElem getElem?_map getElem?_of_mem getElem?_set length_append length_cons length_map length_nil length_replicate length_take length_zipWith map_take mem_cons_of_mem mem_cons_self mem_of_getElem? mem_singleton nil_append set_cons_zero take_add_one take_length toList_toArray)
set_option linter.unusedVariables false
set_option linter.unusedSimpArgs false
set_option maxRecDepth 100000
namespace Go.Xg
open Go.RowKit Go.Xw
section
variable {B:Bs} {K:Fz} {β:Bt} {Γ:List Ob} {w:World}
theorem Inv.swap {i:Nat} {y:Ob} (h:Inv B K β Γ w) (ho:jN K β w i y):Inv B K β (oset Γ i y) w:=by
 refine ⟨h.ext,h.kle,h.ble,h.loc,h.fz,fun j x hj=>?_,fun j hj=>h.out j (by simpa [aY] using hj),h.dis,h.own,h.kn,h.tab⟩;rw [aY,getElem?_set] at hj;split at hj
 ·rename_i fB;split at hj
  ·cases hj;subst fB;exact ho
  ·cases hj
 ·exact h.ob j x hj
theorem Inv.yt {i E k:Nat} {rows:List (List GV)} {x:Value} (h:Inv B K β Γ w) (hi:Γ[i]?=some (.vech E k rows x)):Inv B K β (oset Γ i (.vec E k 0 rows)) w:=by
 obtain ⟨xs,h1,h2,h3,h4,h5⟩:=h.ob i _ hi;exact h.swap ⟨x,xs,h1,h2,h3,h4,fun b hb=>⟨fun o _=>h5 b hb o,fun o g ho=>by omega⟩,Nat.zero_le _⟩
theorem Inv.wc {i E k:Nat} {rows:List (List GV)} (h:Inv B K β Γ w) (hi:Γ[i]?=some (.vec E k 0 rows)):∃ a c,β i=.gr (.slice a rows.length c) rows.length/\Inv B K β (oset Γ i (.vech E k rows (.slice a rows.length c))) w:=by
 obtain ⟨x,xs,h1,h2,h3,h4,h5,h6⟩:=h.ob i _ hi;obtain ⟨a,c,rfl⟩:=h2.shape;exact ⟨a,c,h1,h.swap ⟨xs,h1,h2,h3,h4,fun b hb o=>(h5 b hb).1 o ae⟩⟩
theorem oF {i:Nat} {x y:Ob} (h:Γ[i]?=some x):(oset Γ i y)[i]?=some y:=by
 have:=(List.getElem?_eq_some_iff.1 h).1;rw [aY,getElem?_set];simp [this]
theorem mV {i:Nat} {x y:Ob}:oset (oset Γ i x) i y=oset Γ i y:=by rw [aY,aY,aY,List.set_set]
theorem Inv.gr {i E k:Nat} {rows:List (List GV)} {x:Value} (h:Inv B K β Γ w) (hi:Γ[i]?=some (.vech E k rows x)):β i=.gr x rows.length:=by
 obtain ⟨xs,h1,_⟩:=h.ob i _ hi;exact h1
theorem Inv.qR {i E k:Nat} {rows:List (List GV)} {x:Value} (h:Inv B K β Γ w) (hi:Γ[i]?=some (.vech E k rows x)):∃ K',ca K K'/\Rel K' β x (.sl k rows)/\Inv B K' β (oset Γ i (.vec E k rows.length rows)) w:=by
 obtain ⟨xs,h1,h2,h3,h4,h5⟩:=h.ob i _ hi;obtain ⟨K',hK,xK,bd⟩:=(h.yt hi).iv (oF hi);rw [<-aY,mV] at bd;refine ⟨K',hK,?_,bd⟩
 rcases h2.2 with ⟨e5,e6⟩ | ⟨g,cap,cu,e5,_,_,n9,_⟩
 ·have:rows=[]:=List.eq_nil_of_length_eq_zero e6;subst this;subst e5;exact .sl0 _ _ _
 ·subst e5;refine .sl g 0 cap k rows (fun j r hr=>⟨(h4 r (mem_of_getElem? hr)).1,fun q g' kW=>?_⟩) n9;rw [Nat.zero_add];exact xK _ g h1 rfl _ g' (th h4 hr kW)
end
section
variable {P:Program} {m:Nat} {Q:dP} {fr:List GV} {Γ:List Ob} {ops:Array Oper} {rest:List Oper} {d:Option Tmp} {op:Op} {ty:TypeId} {pos:String} {af:Array Edge}
theorem Wk.mU (E k:Nat):Wk m fr Γ fr (Γ++[.vech E k [] (.slice none 0 0)]):=fun B K β w l hm hI hF=>by
 have bR:β Γ.length=.no:=hI.out _ (Nat.le_refl _);have bd:=hI.Ci (w':=w) (E:=E) (k:=k) (x:=.slice none 0 0) (xs:=[]) (rows:=[]) (Ext.refl w) (gk.nil w 0 E k) (fun b hb=>by cases hb) aV.nil (fun r hr=>by cases hr);have hle:cX β (ep β Γ.length (.gr (.slice none 0 0) ([]:List (List GV)).length)):=fM (by rw [bR];trivial);refine ⟨K,_,?_,hF.mono (ca.refl K) hle⟩;have hb:ep β Γ.length (.gr (.slice none 0 0) ([]:List (List GV)).length) Γ.length=.gr (.slice none 0 0) ([]:List (List GV)).length:=ba;have:=bd.swap (i:=Γ.length) (y:=.vech E k [] (.slice none 0 0)) ⟨[],hb,gk.nil w 0 E k,aV.nil,(fun r hr=>by cases hr),(fun b hb=>by cases hb)⟩;rw [aY] at this;simpa using this
theorem Wk.nB {t i E k:Nat} {rows:List (List GV)} {x:Value} (ht:cq fr t=.v x) (gh:jj fr t=true) (br:Γ[i]?=some (.vech E k rows x)):Wk m fr Γ (bj fr t (.sl k rows)) (oset Γ i (.vec E k rows.length rows)):=fun B K β w l hm hI hF=>by
 obtain ⟨K',hK,hr,bd⟩:=hI.qR br;refine ⟨K',β,bd,?_⟩;have hv:nth l t=x:=Rel.dR (by rw [<-ht];exact hF.nth t);have:=(hF.mono hK (cX.refl β)).eK t hr;rw [<-hv,A6 (lY hF gh)] at this;exact this
theorem aV.bj {K:Fz} {β:Bt} {x:Value} {g:GV} (hr:Rel K β x g):∀ {vs:List Value} {cs:List GV} {o:Nat},aV K β vs cs->cs[o]?=some (.v x)->aV K β vs (bj cs o g):=by
 intro vs
 induction vs with
 | nil=>intro cs o h ho;have:cs=[]:=List.eq_nil_of_length_eq_zero h.1.symm;subst this;simp at ho
 | cons v vs ih =>
  intro cs o h ho
  cases cs with
  | nil=>simp at ho
  | cons c cs =>
   obtain ⟨a1,a2⟩:=h.nf
   cases o with
   | zero=>cases ho;have hv:=Rel.dR a1;subst hv;exact .cons hr a2
   | succ o=>exact .cons a1 (ih a2 (by simpa using ho))
theorem Wk.yX {i o j E k:Nat} {T:TypeId} {cs:List GV} {rows:List (List GV)} {x:Value} (hi:Γ[i]?=some (.box T cs)) (ho:cs[o]?=some (.v x)) (fB:Nat.beq i j=false) (hj:Γ[j]?=some (.vech E k rows x)):Wk m fr Γ fr (oset (oset Γ j (.vec E k rows.length rows)) i (.box T (bj cs o (.sl k rows)))):=fun B K β w l hm hI hF=>by
 have bK:i≠j:=by intro e;subst e;simp at fB
 obtain ⟨K',hK,hr,bd⟩:=hI.qR hj;obtain ⟨b,vs,h1,h2,h3,h4⟩:=bd.ob i (.box T cs) (by rw [aY,getElem?_set,if_neg (fun e=>bK e.symm)];exact hi);exact ⟨K',β,bd.swap ⟨b,vs,h1,h2,aV.bj hr h3 ho,h4⟩,hF.mono hK (cX.refl β)⟩
def du:List (List GV)->Nat->Nat->GV->List (List GV)
 | [],_,_,_=>[]
 | r::rs,0,o,g=>bj r o g::rs
 | r::rs,n+1,o,g=>r::du rs n o g
theorem AH:∀ (l:List GV) (o:Nat) (g:GV),(bj l o g).length=l.length
 | [],_,_=>rfl
 | _::l,0,_=>rfl
 | _::l,o+1,g=>by simp [bj,AH l o g]
theorem AG:∀ (a b:List GV) (o:Nat) (g:GV),bj (a++b) (a.length+o) g=a++bj b o g
 | [],b,o,g=>by simp
 | x::a,b,o,g=>by
  rw [cons_append,length_cons,show a.length+1+o=(a.length+o)+1 by omega,bj,AG a b o g];rfl
theorem Dr:∀ (a b:List GV) (o:Nat) (g:GV),o < a.length->bj (a++b) o g=bj a o g++b
 | [],b,o,g,h=>by simp at h
 | x::a,b,0,g,h=>rfl
 | x::a,b,o+1,g,h=>by simp [bj,Dr a b o g (by simpa using h)]
theorem OZ {l:List GV} {o:Nat} {g x:GV} (h:x∈bj l o g):x∈l\/x=g:=by
 induction l generalizing o with
 | nil=>cases h
 | cons y l ih =>
  cases o with
  | zero =>
   simp only [bj,List.mem_cons] at h;rcases h with h | h
   ·exact .inr h
   ·exact .inl (mem_cons_of_mem _ h)
  | succ o =>
   simp only [bj,List.mem_cons] at h;rcases h with h | h
   ·exact .inl (by rw [h];exact mem_cons_self)
   ·exact (ih h).imp (mem_cons_of_mem _) id
theorem fu:∀ (rows:List (List GV)) (i o:Nat) (g:GV),(du rows i o g).length=rows.length
 | [],_,_,_=>rfl
 | r::rs,0,_,_=>rfl
 | r::rs,n+1,o,g=>by simp [du,fu rs n o g]
theorem ui {k:Nat} {o:Nat} {g:GV} (ho:o < k):∀ {rows:List (List GV)} {i:Nat},fq k rows->i < rows.length->(du rows i o g).flatten=bj rows.flatten (i * k+o) g
 | [],_,_,h=>by simp at h
 | r::rs,0,hk,_=>by
  have:=(hk r (mem_cons_self)).1;rw [du,flatten_cons,flatten_cons,Nat.zero_mul,Nat.zero_add,Dr _ _ _ _ ae]
 | r::rs,n+1,hk,h=>by
  have:=(hk r (mem_cons_self)).1;rw [du,flatten_cons,flatten_cons,ui ho (fun r hr=>hk r (mem_cons_of_mem _ hr)) (by simpa using h),show (n+1) * k+o=r.length+(n * k+o) by rw [Nat.succ_mul];omega,AG]
theorem yW {k:Nat} {o:Nat} {g:GV} (hg:g.pc=true):∀ {rows:List (List GV)} {i:Nat},fq k rows->fq k (du rows i o g)
 | [],_,_=>fun r hr=>by cases hr
 | r::rs,0,hk=>fun r' hr=>by
  simp only [du,List.mem_cons] at hr
  rcases hr with rfl | hr
  ·exact ⟨by rw [AH];exact (hk r mem_cons_self).1,fun x hx=>by
    rcases OZ hx with h | h
    ·exact (hk r mem_cons_self).2 x h
    ·rw [h];exact hg⟩
  ·exact hk r' (mem_cons_of_mem _ hr)
 | r::rs,n+1,hk=>fun r' hr=>by
  simp only [du,List.mem_cons] at hr
  rcases hr with rfl | hr
  ·exact hk _ mem_cons_self
  ·exact yW hg (fun r hr=>hk r (mem_cons_of_mem _ hr)) r' hr
theorem Gs {a b:List (List GV)} {r:List GV} {o:Nat} {g:GV}:du (a++r::b) a.length o g=a++bj r o g::b:=by
 induction a with
 | nil=>rfl
 | cons x a ih=>rw [cons_append,length_cons,du,ih];rfl
theorem Wk.KS {i idx o j E k T k':Nat} {rows ks:List (List GV)} {x h:Value} {r:List GV} (hi:Γ[i]?=some (.vech T k rows h)) (hr:rows[idx]?=some r) (ho:r[o]?=some (.v x)) (fB:Nat.beq i j=false) (hj:Γ[j]?=some (.vech E k' ks x)) :
  Wk m fr Γ fr (oset (oset Γ j (.vec E k' ks.length ks)) i (.vech T k (du rows idx o (.sl k' ks)) h)):=fun B K β w l hm hI hF=>by
 have bK:i≠j:=by intro e;subst e;simp at fB
 obtain ⟨K',hK,eL,bd⟩:=hI.qR hj;obtain ⟨xs,h1,h2,h3,h4,h5⟩:=bd.ob i (.vech T k rows h) (by rw [aY,getElem?_set,if_neg (fun e=>bK e.symm)];exact hi);have aq:=(List.getElem?_eq_some_iff.1 hr).1
 have FI:o < k:=by rw [<-(h4 r (mem_of_getElem? hr)).1];exact (List.getElem?_eq_some_iff.1 ho).1
 exact ⟨K',β,bd.swap ⟨xs,by rw [fu];exact h1,by rw [fu];exact h2,by rw [ui FI h4 aq];exact aV.bj eL h3 (th h4 hr ho),yW rfl h4,h5⟩,hF.mono hK (cX.refl β)⟩
theorem YG.bs {x y:Operand} {t e:TypeId} {k:Nat} [hT:mq P t e k] (i:Nat) {v:Value} {kk:IntKind} {j E:Nat} {rows:List (List GV)} (hx:aP fr x=.v v) (hy:aP fr y=.v (.int kk j)) (br:Γ[i]?=some (.vech E k rows v)) (hj:j < rows.length):YG P (.indexAddr t x y) fr Γ (.vp i rows.length k j 0):=fun B K β w l hI hF=>by
 have hv:=hF.gE hx;obtain ⟨xs,h1,h2,h3,h4,h5⟩:=hI.ob i _ br
 rcases h2.2 with ⟨h8,h9⟩ | ⟨g,cap,cur,h8,_,hg,_⟩
 ·omega
 ·subst h8;exact ⟨_,R.qp hv (hF.gE hy) hj,.vp i _ k j 0 _ ⟨_,_,h1,Nat.le_refl _,fun _=>⟨g,rfl,by simp⟩⟩⟩
theorem YG.sE {x:Operand} {s:TypeId} {f off k:Nat} {agg:Bool} [hT:de P s f off k agg] {i n k' idx o E:Nat} {rows:List (List GV)} {v:Value} (hx:aP fr x=.vp i n k' idx o) (br:Γ[i]?=some (.vech E k' rows v)) (hn:rows.length=n):YG P (.fieldAddr s x f) fr Γ (.vp i n k' idx (o+off)):=fun B K β w l hI hF=>by
 have h:=hF.ev x;rw [hx] at h;generalize hv:ev l x=u at h
 cases h with
 | vp _ _ _ _ _ _ h =>
  obtain ⟨h0,m,h1,h2,h3⟩:=h;rw [hI.gr br] at h1;cases h1;obtain ⟨b,hb,rfl⟩:=h3 hn;exact ⟨_,R.OS hv,.vp i n k' idx _ _ ⟨_,_,hI.gr br,h2,fun _=>⟨b,hb,by rw [Nat.add_assoc]⟩⟩⟩
theorem YG.x8 {x:Operand} {t:TypeId} [hT:Ty P t false 1] {i n k idx o E:Nat} {rows:List (List GV)} {v:Value} {r:List GV} {g:GV} (hx:aP fr x=.vp i n k idx o) (br:Γ[i]?=some (.vech E k rows v)) (hn:rows.length=n) (hr:rows[idx]?=some r) (hg:r[o]?=some g):YG P (.load t x) fr Γ g:=fun B K β w l hI hF=>by
 have h:=hF.ev x;rw [hx] at h;generalize hv:ev l x=u at h
 cases h with
 | vp _ _ _ _ _ _ h =>
  obtain ⟨h0,m,h1,h2,h3⟩:=h;obtain ⟨xs,h4,h5,h6,h7,_⟩:=hI.ob i _ br;rw [h1] at h4;cases h4;obtain ⟨b,hb,rfl⟩:=h3 hn;obtain ⟨u,hu,eL⟩:=h6.at (th h7 hr hg);obtain ⟨b2,c,he,_,_,hc⟩:=h5.cells.2 (by intro h0;rw [h0] at hu;simp at hu);subst he;cases hb;exact ⟨u,R.ld hv (by rw [<-eT];exact hc _ _ hu),eL⟩
theorem A7 {v:Value}:∀ (l:List Value) (n o:Nat),o < n->(eK l o v).take n=eK (l.take n) o v
 | [],n,o,h=>by simp [eK]
 | x::l,0,o,h=>by omega
 | x::l,n+1,0,h=>by simp [eK]
 | x::l,n+1,o+1,h=>by simp [eK,A7 l n o ae]
theorem wN {v:Value}:∀ (l:List Value) (o:Nat),(eK l o v).length=l.length
 | [],o=>rfl
 | x::l,0=>rfl
 | x::l,o+1=>by simp [eK,wN l o]
theorem GL.stH {x y:Operand} {t:TypeId} [hT:Ty P t false 1] {i n k idx o E:Nat} {rows:List (List GV)} {v:Value} {r:List GV} {g:GV} (hx:aP fr x=.vp i n k idx o) (br:Γ[i]?=some (.vech E k rows v)) (hn:rows.length=n) (hr:rows[idx]?=some r) (FI:Nat.blt o r.length=true)
  (hy:lV (aP fr y)=some [g]) (h1:g.one=true) (hp:g.pc=true) (h:GL P m ops Q rest (bh fr d (.v undef)) (oset Γ i (.vech E k (du rows idx o g) v))):GL P m ops Q (⟨d,.store t x y,ty,pos,af,none⟩::rest) fr Γ:=fun B K β w l hm hI hF=>by
 have FP:=hF.ev x;rw [hx] at FP;generalize hv:ev l x=u at FP
 cases FP with
 | vp _ _ _ _ _ _ hh =>
  obtain ⟨h0,mm,e1,e2,e3⟩:=hh;obtain ⟨xs,h4,h5,h6,h7,h8⟩:=hI.ob i _ br;rw [e1] at h4;cases h4;obtain ⟨b,hb,rfl⟩:=e3 hn;have aq:=(List.getElem?_eq_some_iff.1 hr).1
  have Ya:o < k:=by rw [<-(h7 r (mem_of_getElem? hr)).1];simpa using FI
  obtain ⟨us,jK,kj⟩:=(hF.ev y).cells hy
  obtain ⟨u1,rfl⟩:∃ u1,us=[u1]:=by
   have:=kj.1
   match us,this with
   | [u1],_=>exact ⟨u1,rfl⟩
  have W9:Rel K β u1 g:=kj.2 0 u1 g rfl rfl
  have hq:idx * k+o < rows.length * k:=by
   have:(idx+1) * k<=rows.length * k:=Nat.mul_le_mul_right k aq;rw [Nat.succ_mul] at this;omega
  rcases h5.2 with ⟨e5,e6⟩ | ⟨g0,cap,cur,e5,JT,hg,n9,wW,cI,jJ⟩
  ·omega
  ·subst e5;simp only [Value.ownBlock,Option.some.injEq] at hb;subst hb;have O2:rows.length * k<=cap * k:=Nat.mul_le_mul_right k n9
   refine WL.st (t:=t) (k:=1) hv rfl hg (by rw [jK];rfl) ae (by rw [jK];have:=(wD (W9.one h1)).2;simpa [Xw.lf] using this) fun w' hs=>?_
   rw [jK] at hs
   have eV:uF cur (idx * k+o) ([u1]:List Value)=(eK cur.toList (idx * k+o) u1).toArray:=by
    simp only [uF];rw [<-yu]
   simp only [toList_toArray,eV] at hs
   have yP:rows.flatten.length=rows.length * k:=by rw [<-h6.1];exact h5.1
   have how:gk w' 0 E k (.slice (some ⟨g0,0,none⟩) rows.length cap) rows.length (eK xs (idx * k+o) u1) :=
    ⟨by rw [wN];exact h5.1,.inr ⟨g0,cap,_,rfl,JT,hs.blk,n9,wW,by simp [wN,cI],by rw [toList_toArray,A7 _ _ _ hq,jJ]⟩⟩
   have eL:aV K β (eK xs (idx * k+o) u1) (bj rows.flatten (idx * k+o) g):=by
    have gen:∀ (vs:List Value) (cs:List GV) (q:Nat),aV K β vs cs->aV K β (eK vs q u1) (bj cs q g):=by
     intro vs
     induction vs with
     | nil=>intro cs q h;have:cs=[]:=List.eq_nil_of_length_eq_zero h.1.symm;subst this;exact h
     | cons v vs ih =>
      intro cs q h
      cases cs with
      | nil=>have:=h.1;simp at this
      | cons c cs =>
       obtain ⟨a1,a2⟩:=h.nf
       cases q with
       | zero=>exact .cons W9 a2
       | succ q=>exact .cons a1 (ih cs q a2)
    exact gen _ _ _ h6
   have ef:(β i).blk=some g0:=by rw [e1];rfl
   have bd:Inv B K β (oset Γ i (.vech E k (du rows idx o g) (.slice (some ⟨g0,0,none⟩) rows.length cap))) w':=by
    refine ⟨hI.ext.step hs.ext (fun j hj=>?_),hI.kle,hI.ble,hI.loc,hI.fz.ext hs.ext (fun b' o' g' kW he=>?_),fun j y hj=>?_,fun j hj=>hI.out j (by simpa [aY] using hj),hI.dis,hI.own,hI.kn,hI.tab.step hs.ext (fun j hj=>⟨i,by subst hj;exact ef⟩) (ca.refl K) (fun i b2 h=>.inl ⟨i,h⟩)⟩
    ·subst hj;exact (hI.own i _ ef).symm
    ·subst he;rw [h8 _ rfl] at kW;cases kW
    ·rw [aY,getElem?_set] at hj;split at hj
     ·rename_i fB;split at hj
      ·cases hj;subst fB
       exact ⟨_,by rw [fu];exact e1,by rw [fu];exact how,by rw [ui Ya h7 aq];exact eL,yW hp h7,h8⟩
      ·cases hj
     ·rename_i fB;refine (hI.ob j y hj).ext hs.ext (fun b' bg he=>?_) (ca.refl K) (cX.refl β) rfl (fun _ _ _ h=>h);subst he;exact fB (hI.dis i j _ ef bg)
   exact h B K β w' _ hm bd (hF.put d (.v _))
theorem GL.jG {x:Operand} {ts:Tmp} {t e k gD:Nat} {z:List Value} [hT:nT P t e k gD] [hZ:pb P t e k z] {d1 dt:Tmp} {N4:TypeId} {Gk:String} {Lu:Array Edge} (i:Nat) {n:Nat} {rows:List (List GV)} {gs:List GV} {v:Value}
  (hx:lV (aP fr x)=some gs) (hk:Nat.beq gs.length k=true) (h1:lM gs=true) (hp:ru gs=true) (hs:cq fr ts=.v v) (Uj:Nat.beq ts d1=false) (hd:jj fr d1=true) (br:Γ[i]?=some (.vech e k rows v)) (hn:rows.length=n)
  (hb:(n+1<=9223372036854775807/\(n+1) * gD<=140737488355328)/\k<=16777216)
  (h:∀ a c,GL P m ops Q rest (bh (bh fr (some d1) .aaF) (some dt) (.v (.slice a (n+1) c))) (oset Γ i (.vech e k (rows++[gs]) (.slice a (n+1) c)))) :
  GL P m ops Q (⟨some d1,.buildSlice t 1 #[(0,x)],N4,Gk,Lu,none⟩::⟨some dt,.call ⟨.builtin .append,#[.tmp ts,.tmp d1],#[t,t]⟩,ty,pos,af,none⟩::rest) fr Γ:=fun B K β w l hm hI hF=>by
 subst hn;obtain ⟨us,jK,kj⟩:=(hF.ev x).cells hx;obtain ⟨xs,o1,o2,o3,o4,o5⟩:=hI.ob i _ br;have qd:nth l ts=v:=Rel.dR (by rw [<-hs];exact hF.nth ts);have MG:=lY hF hd
 have X5:ts≠d1:=by intro e;subst e;simp at Uj
 have kY:gs.length=k:=by simpa using hk
 refine WL.push (base:=0) (v:=v) (vs:=us) (val:=ev l x) (xs:=xs) (n:=rows.length) rfl (fun u=>by rw [show ev (put l (some d1) u) (.tmp ts)=nth (eK l d1 u) ts from rfl,nz X5];exact qd) (fun u=>r9 MG u) jK (by rw [kj.1,kY]) (kj.lf h1) o2 hb.1.1 hb.1.2 hb.2 (Nat.zero_le _) ?_;intro u v' w' how gq tV vf;obtain ⟨K',hK,qe,bd⟩:=(hI.yt br).grow (fz:=0) (oF br) o1 ⟨o2,o3⟩ (news:=[gs]) (ns:=us) how gq tV (by simpa using kj) (fun r hr=>by simp at hr;subst hr;exact ⟨kY,me hp⟩) (by simp) (fun b bg o v ho hv=>by omega);rw [<-aY,mV] at bd;obtain ⟨a,c,px,nG⟩:=bd.wc (oF br);rw [mV] at nG;obtain ⟨a',c',rfl⟩:=how.shape;rw [ba] at px;simp only [length_append,length_cons,length_nil] at px nG qe;cases px;exact h _ _ B K' _ w' _ hm nG (((hF.mono hK qe).put (some d1) (.aaF u)).put (some dt) (.v _))
theorem GL.qh {s x:Operand} {t e k gD:Nat} [hT:nT P t e k gD] (i:Nat) {n:Nat} {dt:Tmp} {v:Value} {rows news:List (List GV)} (hx:aP fr x=.sl k news) (hs:aP fr s=.v v) (br:Γ[i]?=some (.vech e k rows v)) (hn:rows.length=n) (h1:lN news=true) (bK:news.isEmpty=false)
  (hb:n+news.length<=9223372036854775807/\(n+news.length) * gD<=140737488355328)
  (h:∀ a c,GL P m ops Q rest (bh fr (some dt) (.v (.slice a (n+news.length) c))) (oset Γ i (.vech e k (rows++news) (.slice a (n+news.length) c)))) :
  GL P m ops Q (⟨some dt,.call ⟨.builtin .append,#[s,x],#[t,t]⟩,ty,pos,af,none⟩::rest) fr Γ:=fun B K β w l hm hI hF=>by
 subst hn
 have bK:news≠[]:=by intro h0;rw [h0] at bK;cases bK
 obtain ⟨xs,o1,o2,o3,o4,o5⟩:=hI.ob i _ br;have qd:ev l s=v:=hF.gE hs;have rl:=hF.ev x;rw [hx] at rl;generalize rm:ev l x=vx at rl
 cases rl with
 | sl0 a c k=>exact absurd rfl bK
 | sl b o c _ _ hr _ =>
  have jF:fq k news:=fun r MQ=>by
   obtain ⟨j,hj⟩:=List.mem_iff_getElem?.1 MQ;refine ⟨(hr j r hj).1,fun g hg=>?_⟩;obtain ⟨q,hq⟩:=List.mem_iff_getElem?.1 hg;exact (hI.fz _ _ _ ((hr j r hj).2 q g hq)).1
  have yP:∀ (rows:List (List GV)) (o:Nat),(∀ (j:Nat) r,rows[j]?=some r->r.length=k/\∀ (q:Nat) g,r[q]?=some g->K b (o+j * k+q)=some g)->∀ (q:Nat) g,rows.flatten[q]?=some g->K b (o+q)=some g:=by
   intro rows
   induction rows with
   | nil=>intro o _ q g hg;simp at hg
   | cons r rows ih =>
    intro o h q g hg;rw [flatten_cons] at hg;have hl:=(h 0 r rfl).1
    by_cases hq:q < r.length
    ·rw [List.getElem?_append_left hq] at hg;have:=(h 0 r rfl).2 q g hg;simpa using this
    ·rw [getElem?_append_right ae,hl] at hg
     have:=ih (o+k) (fun j r' hj=>by
      have:=h (j+1) r' (by simpa using hj);refine ⟨this.1,fun q g hg=>?_⟩;have:=this.2 q g hg
      rw [show o+(j+1) * k+q=o+k+j * k+q by rw [Nat.succ_mul];omega] at this;exact this) (q - k) g hg
     rw [show o+k+(q - k)=o+q by omega] at this;exact this
  obtain ⟨us,jK,kj⟩:=vV (K:=K) (β:=β) (H:=w.heap) (b:=b) news.flatten o (fun j g hj=>by
   obtain ⟨hp,u,hu,eL⟩:=hI.fz _ _ _ (yP news o (fun j r hj=>hr j r hj) j g hj)
   exact ⟨u,hu,eL.pc hp⟩)
  have DB:us.length=news.length * k:=by
   rw [jK.1,List.length_flatten]
   have:∀ (rows:List (List GV)),fq k rows->(rows.map List.length).sum=rows.length * k:=by
    intro rows
    induction rows with
    | nil=>intro _;simp
    | cons r rows ih =>
     intro hk;rw [List.map_cons,List.sum_cons,ih (fun r hr=>hk r (mem_cons_of_mem _ hr)),(hk r (mem_cons_self)).1,length_cons,Nat.succ_mul];omega
   exact this news jF
  refine WL.app (base:=0) (v:=v) (n:=rows.length) (m:=news.length) (xs:=xs) (news:=us) qd o2 rm DB (fun j u hj=>by rw [eT];exact kj j u hj) (jK.lf (BV h1)) hb.1 hb.2 (Nat.zero_le _) ?_;intro v' w' how gq tV vf;obtain ⟨K',hK,qe,bd⟩:=(hI.yt br).grow (fz:=0) (oF br) o1 ⟨o2,o3⟩ (news:=news) (ns:=us) how gq tV jK jF bK (fun b bg o v ho hv=>by omega);rw [<-aY,mV] at bd;obtain ⟨a,c,px,nG⟩:=bd.wc (oF br);rw [mV] at nG;obtain ⟨a',c',rfl⟩:=how.shape;rw [ba] at px;simp only [length_append] at px nG qe;cases px;exact h _ _ B K' _ w' _ hm nG ((hF.mono hK qe).put (some dt) (.v _))
end
end Go.Xg
namespace Go.Xg
open Go.RowKit Go.Xw
theorem D0:∀ (us vs:List Value) (o n:Nat),o+us.length<=n->(gw vs o us).take n=gw (vs.take n) o us
 | [],vs,o,n,_=>rfl
 | u::us,vs,o,n,h=>by
  rw [length_cons] at h;rw [gw,gw,D0 us _ _ _ ae,A7 _ _ _ ae]
theorem xz (a:List GV):∀ (gs b:List GV) (o:Nat),nu (a++b) (a.length+o) gs=a++nu b o gs
 | [],b,o=>rfl
 | g::gs,b,o=>by rw [nu,nu,AG,Nat.add_assoc,xz a gs]
theorem Bm:∀ (gs a b:List GV),a.length=gs.length->nu (a++b) 0 gs=gs++b
 | [],[],b,_=>rfl
 | [],x::a,b,h=>by simp at h
 | g::gs,[],b,h=>by simp at h
 | g::gs,x::a,b,h=>by
  rw [nu,cons_append,bj];have:=xz [g] gs (a++b) 0;simp only [length_cons,length_nil,cons_append,nil_append,Nat.zero_add,Nat.add_zero] at this |-;rw [this,Bm gs a b (by simpa using h)]
theorem Gq {k:Nat} {gs:List GV} (hg:gs.length=k):∀ {rows:List (List GV)} {i:Nat},fq k rows->i < rows.length->nu rows.flatten (i * k) gs=(rows.set i gs).flatten
 | [],_,_,h=>by simp at h
 | r::rs,0,hk,_=>by
  rw [flatten_cons,set_cons_zero,flatten_cons,Nat.zero_mul,Bm gs r _ (by rw [hg];exact (hk r mem_cons_self).1)]
 | r::rs,n+1,hk,h=>by
  have hr:=(hk r mem_cons_self).1;rw [flatten_cons,List.set_cons_succ,flatten_cons,<-Gq hg (fun r hr=>hk r (mem_cons_of_mem _ hr)) (by simpa using h),show (n+1) * k=r.length+n * k by rw [Nat.succ_mul];omega,xz]
theorem KP {k:Nat} {gs:List GV} (hg:gs.length=k) (hp:ru gs=true) {rows:List (List GV)} {i:Nat} (h:fq k rows):fq k (rows.set i gs):=fun r hr=>by
 rcases List.mem_or_eq_of_mem_set hr with hr | rfl
 ·exact h r hr
 ·exact ⟨hg,me hp⟩
section
variable {P:Program} {m:Nat} {ops:Array Oper} {Q:dP} {rest:List Oper} {fr:List GV} {Γ:List Ob} {d:Option Tmp} {ty:TypeId} {pos:String} {af:Array Edge}
theorem GL.Yv {x y:Operand} {t:TypeId} {agg:Bool} {k:Nat} [hT:Ty P t agg k] {i n idx E:Nat} {rows:List (List GV)} {v:Value} {gs:List GV} (hx:aP fr x=.vp i n k idx 0) (br:Γ[i]?=some (.vech E k rows v)) (hn:rows.length=n) (aq:idx < rows.length)
  (hy:lV (aP fr y)=some gs) (hk:Nat.beq gs.length k=true) (h1:lM gs=true) (hp:ru gs=true) (h:GL P m ops Q rest (bh fr d (.v undef)) (oset Γ i (.vech E k (rows.set idx gs) v))):GL P m ops Q (⟨d,.store t x y,ty,pos,af,none⟩::rest) fr Γ:=fun B K β w l hm hI hF=>by
 have hk:gs.length=k:=by simpa using hk
 have FP:=hF.ev x;rw [hx] at FP;generalize hv:ev l x=u at FP
 cases FP with
 | vp _ _ _ _ _ _ hh =>
  obtain ⟨h0,mm,e1,e2,e3⟩:=hh;obtain ⟨xs,h4,h5,h6,h7,h8⟩:=hI.ob i _ br;rw [e1] at h4;cases h4;obtain ⟨b,hb,rfl⟩:=e3 hn;obtain ⟨us,jK,kj⟩:=(hF.ev y).cells hy
  have DB:us.length=k:=by rw [kj.1,hk]
  have hq:idx * k+k<=rows.length * k:=by
   have:(idx+1) * k<=rows.length * k:=Nat.mul_le_mul_right k aq;rw [Nat.succ_mul] at this;omega
  rcases h5.2 with ⟨e5,e6⟩ | ⟨g0,cap,cur,e5,JT,hg,n9,wW,cI,jJ⟩
  ·omega
  ·subst e5;simp only [Value.ownBlock,Option.some.injEq] at hb;subst hb;have O2:rows.length * k<=cap * k:=Nat.mul_le_mul_right k n9
   refine WL.st (t:=t) (k:=k) hv rfl hg (by rw [jK];simpa using DB) (by rw [Nat.add_zero];omega) (by rw [jK];simpa using kj.lf h1) fun w' hs=>?_
   rw [jK,toList_toArray,Nat.add_zero] at hs;obtain ⟨cur⟩:=cur;rw [uj] at hs;simp only [List.size_toArray,toList_toArray] at cI jJ
   have how:gk w' 0 E k (.slice (some ⟨g0,0,none⟩) rows.length cap) rows.length (gw xs (idx * k) us) :=
    ⟨by rw [A3];exact h5.1,.inr ⟨g0,cap,_,rfl,JT,hs.blk,n9,wW,by simp [A3,cI],by rw [toList_toArray,D0 _ _ _ _ ae,jJ]⟩⟩
   have eL:aV K β (gw xs (idx * k) us) (nu rows.flatten (idx * k) gs):=kj.gw _ h6;rw [Gq hk h7 aq] at eL
   have ef:(β i).blk=some g0:=by rw [e1];rfl
   have bd:Inv B K β (oset Γ i (.vech E k (rows.set idx gs) (.slice (some ⟨g0,0,none⟩) rows.length cap))) w':=by
    refine ⟨hI.ext.step hs.ext (fun j hj=>?_),hI.kle,hI.ble,hI.loc,hI.fz.ext hs.ext (fun b' o' g' kW he=>?_),fun j y hj=>?_,fun j hj=>hI.out j (by simpa [aY] using hj),hI.dis,hI.own,hI.kn,hI.tab.step hs.ext (fun j hj=>⟨i,by subst hj;exact ef⟩) (ca.refl K) (fun i b2 h=>.inl ⟨i,h⟩)⟩
    ·subst hj;exact (hI.own i _ ef).symm
    ·subst he;rw [h8 _ rfl] at kW;cases kW
    ·rw [aY,getElem?_set] at hj;split at hj
     ·rename_i fB;split at hj
      ·cases hj;subst fB
       exact ⟨_,by rw [List.length_set];exact e1,by rw [List.length_set];exact how,eL,KP hk hp h7,h8⟩
      ·cases hj
     ·rename_i fB;refine (hI.ob j y hj).ext hs.ext (fun b' bg he=>?_) (ca.refl K) (cX.refl β) rfl (fun _ _ _ h=>h);subst he;exact fB (hI.dis i j _ ef bg)
   exact h B K β w' _ hm bd (hF.put d (.v _))
theorem S1 (n:Nat) (z:List Value):(List.replicate n (jM z)).flatten=zs n z:=by
 induction n with
 | zero=>rfl
 | succ n ih=>rw [List.replicate_succ,flatten_cons,ih,zs]
theorem GL.zI {x:Operand} {t e k gD:Nat} {z:List Value} [hT:nT P t e k gD] [hZ:pb P t e k z] {dt:Tmp} {n:Nat} (hx:aP fr x=.v (ii (n:Nat))) (hb:n<=1099511627776/\gD * n<=281474976710656)
  (h:∀ a c,GL P m ops Q rest (bh fr (some dt) (.v (.slice a n c))) (Γ++[.vech e k (List.replicate n (jM z)) (.slice a n c)])) :
  GL P m ops Q (⟨some dt,.makeSlice t x x,ty,pos,af,none⟩::rest) fr Γ:=fun B K β w l hm hI hF=>by
 obtain ⟨hu,⟨i,z0,hi,hz,MV,cI,xH⟩,hk⟩:=hT.parts;have rm:ev l x=ii (n:Nat):=hF.gE hx;obtain ⟨w',hr,h2,h3⟩:=run_make_full (P:=P) (w:=w) 0 t e i z0 k hu hi hz cI .i64 .i64 n (by rw [xH];exact hb.2) (by simp only [maxLen];omega) (Nat.zero_le _)
 have FX:z0.cells.toList=z:=by
  have h4:=hZ.zero;rw [hi] at h4;simp only [Option.bind_some,hz,Option.some.injEq] at h4;have hl:=hZ.zl
  by_cases h1:k=1
  ·rw [if_pos h1] at h4;rw [h4,hZ.one h1];subst h1
   match z,hl with
   | [a],_=>rfl
  ·rw [if_neg h1] at h4;rw [h4];rfl
 have Fu:(madeCells z0.cells (n * k)).toList=(List.range (n * k)).map fun j=>z.getD (j % k) undef:=by
  unfold madeCells;rw [Array.toList_map,Array.toList_range];apply List.map_congr_left;intro j _
  have aq:j % k < z0.cells.size:=by rw [MV];exact Nat.mod_lt _ hk
  rw [MV,getElem!_pos z0.cells (j % k) aq,<-FX,List.getD_eq_getElem?_getD,Array.getElem?_toList,Array.getElem?_eq_getElem aq];rfl
 rw [Fu] at h2;have eL:=Ha (K:=K) (β:=β) (n:=n) hZ.zl hZ.pos;rw [<-S1] at eL
 have eJ:fq k (List.replicate n (jM z)):=fun r hr=>by
  have:=List.eq_of_mem_replicate hr;subst this;refine ⟨by rw [<-hZ.zl];simp [jM],fun g hg=>?_⟩;unfold jM at hg;obtain ⟨v,_,rfl⟩:=List.mem_map.1 hg;rfl
 have gq:Ext gP w w':=⟨h3.os,h3.tape,h3.output,h3.size,fun j hj _=>h3.block j hj (by simp)⟩;have bd:=hI.Ci (x:=.slice (some ⟨w.heap.size,0,none⟩) n n) (rows:=List.replicate n (jM z)) gq (by rw [length_replicate];exact h2) (fun b hb=>by cases hb;exact Nat.le_refl _) eL eJ
 have XW:(Γ++[Ob.vec e k 0 (List.replicate n (jM z))])[Γ.length]?=some (Ob.vec e k 0 (List.replicate n (jM z))):=by simp
 obtain ⟨a,c,px,nG⟩:=bd.wc XW;rw [ba] at px
 injection px with zu eB
 injection zu with xE hb4 hb5
 subst xE hb5
 have ZM:oset (Γ++[.vec e k 0 (List.replicate n (jM z))]) Γ.length (.vech e k (List.replicate n (jM z)) (.slice (some ⟨w.heap.size,0,none⟩) (List.replicate n (jM z)).length n))=Γ++[.vech e k (List.replicate n (jM z)) (.slice (some ⟨w.heap.size,0,none⟩) (List.replicate n (jM z)).length n)]:=by
  rw [aY];simp
 rw [ZM,length_replicate] at nG;refine WL.val (v:=.slice (some ⟨w.heap.size,0,none⟩) n n) (w':=w') (by simp [execOp,rm,hr]) ?_;exact h _ _ B K _ w' _ hm nG ((hF.mono (ca.refl K) (fM (by rw [hI.out _ (Nat.le_refl _)];trivial))).put (some dt) (.v _))
end
end Go.Xg
set_option maxHeartbeats 2000000
namespace Go.Xg
open Go.RowKit Go.Xw Go.Proofs
open Go.Xp (Nd Ar)
open Go.Sp (Src)
open Go.Im (wS cM aZ nc rK fc c7 nb kp na)
open Go.Im (kC kB kA)
attribute [local irreducible] GW GL GO YG GC GA aS aW
theorem P7 (l:List Int) (hl:l.length<=1048576):GF Tryz.prog 135 [ints l] [] (ints l) []:=by
 have hm:(l.map (fun i=>[GV.v (ii i)])).length=l.length:=by simp
 refine ai Tryz.func135 Tryz.ntmps135 ?_;refine GL.zI rfl ⟨by omega,by omega⟩ ?_;intro a c;refine bI ?_;refine ab ?_;refine GW.loop (fun k:Nat=>l.length - k) (fun k fr Γ=>∃ R Z,fr=[ints l,.aaF,.aaF,.v (.slice a (l.map (fun i=>[GV.v (ii i)])).length c),.v (ii (k:Nat)),.aaF,.aaF,.aaF,.aaF,.aaF,.aaF,.aaF,.aaF,.aaF,.aaF,.aaF,.aaF,.aaF,.aaF,.aaF,.aaF,.aaF]/\Γ=[.vech 3 1 R (.slice a (l.map (fun i=>[GV.v (ii i)])).length c)]/\k<=l.length/\R=(l.take k).map (fun i=>[GV.v (ii i)])++List.replicate (l.length - k) Z) 0 ?_ ?_
 ·exact ⟨_,_,Wk.aw al,_,_,rfl,rfl,Nat.zero_le _,by rw [hm];rfl⟩
 rintro k _ _ ⟨R,Z,rfl,rfl,hk,hR⟩
 have mO:R.length=l.length:=by rw [hR];exact kB hk
 have eu:R.length=(l.map (fun i=>[GV.v (ii i)])).length:=by rw [hm];exact mO
 by_cases aq:k < l.length
 ·have hx:l[k]?=some l[k]:=by simp [aq]
  have hr:(l.map (fun i=>[GV.v (ii i)]))[k]?=some ([GV.v (ii l[k])]):=by rw [getElem?_map,hx];rfl
  have dc:decide ((k:Int) < ((l.map (fun i=>[GV.v (ii i)])).length:Int))=true:=by rw [hm];simpa using aq
  have b6:=kC (f:=(fun i=>[GV.v (ii i)])) (Z:=Z) hx;rw [<-hR] at b6;clear hR;generalize l[k]=x at *;refine ab ?_;refine jq ?_;refine ab ?_;exact ⟨k+1,⟨_,_,Wk.aw al,_,Z,rfl,rfl,aq,b6⟩,by show l.length - (k+1) < l.length - k;omega⟩
 ·have dc:decide ((k:Int) < ((l.map (fun i=>[GV.v (ii i)])).length:Int))=false:=by rw [hm];simpa using aq
  have kZ:k=l.length:=by omega
  subst kZ;rw [kA] at hR;subst hR;refine ab ?_;refine aU ?_;refine GW.wk (by apply Wk.nB (t:=3) (i:=0) <;> rfl) ?_;simp only [oset,bj];exact av
theorem zP (l:List ah) (hl:l.length<=1048576):GF Tryz.prog 41 [strs l] [] (strs l) []:=by
 have hm:(l.map (fun s=>[GV.v (sv s)])).length=l.length:=by simp
 refine ai Tryz.func41 Tryz.ntmps41 ?_;refine GL.zI rfl ⟨by omega,by omega⟩ ?_;intro a c;refine bI ?_;refine ab ?_;refine GW.loop (fun k:Nat=>l.length - k) (fun k fr Γ=>∃ R Z,fr=[strs l,.aaF,.aaF,.v (.slice a (l.map (fun s=>[GV.v (sv s)])).length c),.v (ii (k:Nat)),.aaF,.aaF,.aaF,.aaF,.aaF,.aaF,.aaF,.aaF,.aaF,.aaF,.aaF,.aaF,.aaF,.aaF,.aaF,.aaF,.aaF]/\Γ=[.vech 9 1 R (.slice a (l.map (fun s=>[GV.v (sv s)])).length c)]/\k<=l.length/\R=(l.take k).map (fun s=>[GV.v (sv s)])++List.replicate (l.length - k) Z) 0 ?_ ?_
 ·exact ⟨_,_,Wk.aw al,_,_,rfl,rfl,Nat.zero_le _,by rw [hm];rfl⟩
 rintro k _ _ ⟨R,Z,rfl,rfl,hk,hR⟩
 have mO:R.length=l.length:=by rw [hR];exact kB hk
 have eu:R.length=(l.map (fun s=>[GV.v (sv s)])).length:=by rw [hm];exact mO
 by_cases aq:k < l.length
 ·have hx:l[k]?=some l[k]:=by simp [aq]
  have hr:(l.map (fun s=>[GV.v (sv s)]))[k]?=some ([GV.v (sv l[k])]):=by rw [getElem?_map,hx];rfl
  have dc:decide ((k:Int) < ((l.map (fun s=>[GV.v (sv s)])).length:Int))=true:=by rw [hm];simpa using aq
  have b6:=kC (f:=(fun s=>[GV.v (sv s)])) (Z:=Z) hx;rw [<-hR] at b6;clear hR;generalize l[k]=x at *;refine ab ?_;refine jq ?_;refine ab ?_;exact ⟨k+1,⟨_,_,Wk.aw al,_,Z,rfl,rfl,aq,b6⟩,by show l.length - (k+1) < l.length - k;omega⟩
 ·have dc:decide ((k:Int) < ((l.map (fun s=>[GV.v (sv s)])).length:Int))=false:=by rw [hm];simpa using aq
  have kZ:k=l.length:=by omega
  subst kZ;rw [kA] at hR;subst hR;refine ab ?_;refine aU ?_;refine GW.wk (by apply Wk.nB (t:=3) (i:=0) <;> rfl) ?_;simp only [oset,bj];exact av
theorem D5 (x:Ar):GF Tryz.prog 100 [.agg (aB x)] [] (.agg (aB x)) []:=by
 refine ai Tryz.func100 Tryz.ntmps100 ?_;exact dd
theorem K7 (l:List Ar) (hl:l.length<=1048576):GF Tryz.prog 42 [.sl 2 (l.map aB)] [] (.sl 2 (l.map aB)) []:=by
 have hm:(l.map aB).length=l.length:=by simp
 refine ai Tryz.func42 Tryz.ntmps42 ?_;refine GL.zI rfl ⟨by omega,by omega⟩ ?_;intro a c;refine bI ?_;refine ab ?_;refine GW.loop (fun k:Nat=>l.length - k) (fun k fr Γ=>∃ R Z,fr=[.sl 2 (l.map aB),.aaF,.aaF,.v (.slice a (l.map aB).length c),.v (ii (k:Nat)),.aaF,.aaF,.aaF,.aaF,.aaF,.aaF,.aaF,.aaF,.aaF,.aaF,.aaF,.aaF,.aaF,.aaF,.aaF,.aaF,.aaF,.aaF]/\Γ=[.vech 88 2 R (.slice a (l.map aB).length c)]/\k<=l.length/\R=(l.take k).map aB++List.replicate (l.length - k) Z) 0 ?_ ?_
 ·exact ⟨_,_,Wk.aw al,_,_,rfl,rfl,Nat.zero_le _,by rw [hm];rfl⟩
 rintro k _ _ ⟨R,Z,rfl,rfl,hk,hR⟩
 have mO:R.length=l.length:=by rw [hR];exact kB hk
 have eu:R.length=(l.map aB).length:=by rw [hm];exact mO
 by_cases aq:k < l.length
 ·have hx:l[k]?=some l[k]:=by simp [aq]
  have hr:(l.map aB)[k]?=some (aB l[k]):=by rw [getElem?_map,hx];rfl
  have dc:decide ((k:Int) < ((l.map aB).length:Int))=true:=by rw [hm];simpa using aq
  have b6:=kC (f:=aB) (Z:=Z) hx;rw [<-hR] at b6;have hc:=D5 l[k];clear hR;generalize l[k]=x at *;refine ab ?_;refine U [] (hc) ?_;refine jq ?_;refine ab ?_;exact ⟨k+1,⟨_,_,Wk.aw al,_,Z,rfl,rfl,aq,b6⟩,by show l.length - (k+1) < l.length - k;omega⟩
 ·have dc:decide ((k:Int) < ((l.map aB).length:Int))=false:=by rw [hm];simpa using aq
  have kZ:k=l.length:=by omega
  subst kZ;rw [kA] at hR;subst hR;refine ab ?_;refine aU ?_;refine GW.wk (by apply Wk.nB (t:=3) (i:=0) <;> rfl) ?_;simp only [oset,bj];exact av
theorem Vg (x:Go.Sp.Fn) (hp:x.params.length<=1048576):GF Tryz.prog 101 [.agg (au x)] [] (.agg (au x)) []:=by
 have h0:=zP x.params hp;refine ai Tryz.func101 Tryz.ntmps101 ?_;refine U [] (h0) ?_;exact dd
theorem SV (l:List Go.Sp.Fn) (hl:l.length<=1048576) (he:∀ x∈l,x.params.length<=1048576):GF Tryz.prog 43 [.sl 3 (l.map au)] [] (.sl 3 (l.map au)) []:=by
 have hm:(l.map au).length=l.length:=by simp
 refine ai Tryz.func43 Tryz.ntmps43 ?_;refine GL.zI rfl ⟨by omega,by omega⟩ ?_;intro a c;refine bI ?_;refine ab ?_;refine GW.loop (fun k:Nat=>l.length - k) (fun k fr Γ=>∃ R Z,fr=[.sl 3 (l.map au),.aaF,.aaF,.v (.slice a (l.map au).length c),.v (ii (k:Nat)),.aaF,.aaF,.aaF,.aaF,.aaF,.aaF,.aaF,.aaF,.aaF,.aaF,.aaF,.aaF,.aaF,.aaF,.aaF,.aaF,.aaF,.aaF]/\Γ=[.vech 60 3 R (.slice a (l.map au).length c)]/\k<=l.length/\R=(l.take k).map au++List.replicate (l.length - k) Z) 0 ?_ ?_
 ·exact ⟨_,_,Wk.aw al,_,_,rfl,rfl,Nat.zero_le _,by rw [hm];rfl⟩
 rintro k _ _ ⟨R,Z,rfl,rfl,hk,hR⟩
 have mO:R.length=l.length:=by rw [hR];exact kB hk
 have eu:R.length=(l.map au).length:=by rw [hm];exact mO
 by_cases aq:k < l.length
 ·have hx:l[k]?=some l[k]:=by simp [aq]
  have hr:(l.map au)[k]?=some (au l[k]):=by rw [getElem?_map,hx];rfl
  have dc:decide ((k:Int) < ((l.map au).length:Int))=true:=by rw [hm];simpa using aq
  have b6:=kC (f:=au) (Z:=Z) hx;rw [<-hR] at b6;have hex:=he _ (mem_of_getElem? hx);have hc:=Vg l[k] hex;clear hR;generalize l[k]=x at *;refine ab ?_;refine U [] (hc) ?_;refine jq ?_;refine ab ?_;exact ⟨k+1,⟨_,_,Wk.aw al,_,Z,rfl,rfl,aq,b6⟩,by show l.length - (k+1) < l.length - k;omega⟩
 ·have dc:decide ((k:Int) < ((l.map au).length:Int))=false:=by rw [hm];simpa using aq
  have kZ:k=l.length:=by omega
  subst kZ;rw [kA] at hR;subst hR;refine ab ?_;refine aU ?_;refine GW.wk (by apply Wk.nB (t:=3) (i:=0) <;> rfl) ?_;simp only [oset,bj];exact av
theorem P9 (x:Nd) (hp:x.kids.length<=1048576):GF Tryz.prog 102 [.agg (ax x)] [] (.agg (ax x)) []:=by
 have h0:=P7 x.kids hp;refine ai Tryz.func102 Tryz.ntmps102 ?_;refine U [] (h0) ?_;exact dd
theorem NZ (l:List Nd) (hl:l.length<=1048576) (he:∀ x∈l,x.kids.length<=1048576):GF Tryz.prog 44 [.sl 5 (l.map ax)] [] (.sl 5 (l.map ax)) []:=by
 have hm:(l.map ax).length=l.length:=by simp
 refine ai Tryz.func44 Tryz.ntmps44 ?_;refine GL.zI rfl ⟨by omega,by omega⟩ ?_;intro a c;refine bI ?_;refine ab ?_;refine GW.loop (fun k:Nat=>l.length - k) (fun k fr Γ=>∃ R Z,fr=[.sl 5 (l.map ax),.aaF,.aaF,.v (.slice a (l.map ax).length c),.v (ii (k:Nat)),.aaF,.aaF,.aaF,.aaF,.aaF,.aaF,.aaF,.aaF,.aaF,.aaF,.aaF,.aaF,.aaF,.aaF,.aaF,.aaF,.aaF,.aaF]/\Γ=[.vech 91 5 R (.slice a (l.map ax).length c)]/\k<=l.length/\R=(l.take k).map ax++List.replicate (l.length - k) Z) 0 ?_ ?_
 ·exact ⟨_,_,Wk.aw al,_,_,rfl,rfl,Nat.zero_le _,by rw [hm];rfl⟩
 rintro k _ _ ⟨R,Z,rfl,rfl,hk,hR⟩
 have mO:R.length=l.length:=by rw [hR];exact kB hk
 have eu:R.length=(l.map ax).length:=by rw [hm];exact mO
 by_cases aq:k < l.length
 ·have hx:l[k]?=some l[k]:=by simp [aq]
  have hr:(l.map ax)[k]?=some (ax l[k]):=by rw [getElem?_map,hx];rfl
  have dc:decide ((k:Int) < ((l.map ax).length:Int))=true:=by rw [hm];simpa using aq
  have b6:=kC (f:=ax) (Z:=Z) hx;rw [<-hR] at b6;have hex:=he _ (mem_of_getElem? hx);have hc:=P9 l[k] hex;clear hR;generalize l[k]=x at *;refine ab ?_;refine U [] (hc) ?_;refine jq ?_;refine ab ?_;exact ⟨k+1,⟨_,_,Wk.aw al,_,Z,rfl,rfl,aq,b6⟩,by show l.length - (k+1) < l.length - k;omega⟩
 ·have dc:decide ((k:Int) < ((l.map ax).length:Int))=false:=by rw [hm];simpa using aq
  have kZ:k=l.length:=by omega
  subst kZ;rw [kA] at hR;subst hR;refine ab ?_;refine aU ?_;refine GW.wk (by apply Wk.nB (t:=3) (i:=0) <;> rfl) ?_;simp only [oset,bj];exact av
theorem rW (x:Src) (hg:x.globals.length<=1048576) (ha:x.arrays.length<=1048576) (hf:x.fns.length<=1048576) (pz:∀ f∈x.fns,f.params.length<=1048576) (hn:x.nodes.length<=1048576) (oa:∀ n∈x.nodes,n.kids.length<=1048576):GF Tryz.prog 12 [.agg (ar x)] [] (.agg (ar x)) []:=by
 have h0:=zP x.globals hg;have h1:=K7 x.arrays ha;have h2:=SV x.fns hf pz;have h3:=NZ x.nodes hn oa;refine ai Tryz.func12 Tryz.ntmps12 ?_;refine U [] (h0) ?_;refine U [] (h1) ?_;refine U [] (h2) ?_;refine U [] (h3) ?_;exact dd
end Go.Xg
namespace Go.Xg
open Go.RowKit Go.Xw
def Ob.mz:Ob->Bool
 | .vech _ _ _ _=>true
 | _=>false
def pM (β:Bt) (aJ:List Nat):Bt:=fun j=>match aJ[j]? with
 | some i=>β i
 | none=>.no
section
variable {B:Bs} {K:Fz} {β:Bt} {Γ:List Ob} {w:World}
theorem aV.ru {K:Fz} {β bL:Bt} {vs:List Value} {gs:List GV} (h:aV K β vs gs) (hp:∀ g∈gs,g.pc=true):aV K bL vs gs:=⟨h.1,fun i v g h1 h2=>(h.2 i v g h1 h2).pc (hp g (mem_of_getElem? h2))⟩
theorem fq.flat {k:Nat} {rows:List (List GV)} (h:fq k rows):∀ g∈rows.flatten,g.pc=true:=fun g hg=>by
 obtain ⟨r,h1,h2⟩:=List.mem_flatten.1 hg;exact (h r h1).2 g h2
theorem Inv.pick (h:Inv B K β Γ w) (hm:B.m=0) {aJ:List Nat} {Δ:List Ob} (hl:Δ.length=aJ.length) (hn:aJ.Nodup)
  (hx:∀ (j:Nat) x,Δ[j]?=some x->x.mz=true/\∀ i,aJ[j]?=some i->Γ[i]?=some x):Inv B K (pM β aJ) Δ w:=by
 have hb:∀ i b,(pM β aJ i).blk=some b->∃ q,aJ[i]?=some q/\(β q).blk=some b:=fun i b hi=>by
  unfold pM at hi
  cases hs:aJ[i]? with
  | none=>rw [hs] at hi;cases hi
  | some q=>rw [hs] at hi;exact ⟨q,rfl,hi⟩
 refine ⟨h.ext,h.kle,fun i=>by rw [h.loc i ae];trivial,h.loc,h.fz,fun i x hi=>?_,fun i hi=>?_,fun i j b hi hj=>?_,fun i b hi=>?_,h.kn,h.tab.step (S:=gP) (Ext.refl w) (fun _ h=>h.elim) (ca.refl K) (fun i b2 h2=>?_)⟩
 ·obtain ⟨h1,h2⟩:=hx i x hi;have aq:=(List.getElem?_eq_some_iff.1 hi).1;have hs:aJ[i]?=some (aJ[i]'ae):=getElem?_eq_getElem _
  cases x with
  | vech E k rows v =>
   obtain ⟨xs,e1,e2,e3,e4,e5⟩:=h.ob _ _ (h2 _ hs);refine ⟨xs,?_,e2,e3.ru e4.flat,e4,e5⟩;show pM β aJ i=_;unfold pM;rw [hs];exact e1
  | _=>cases h1
 ·unfold pM;rw [List.getElem?_eq_none ae]
 ·obtain ⟨q,h1,h2⟩:=hb i b hi;obtain ⟨r,h3,h4⟩:=hb j b hj;have:=h.dis q r b h2 h4;subst this;obtain ⟨a1,a2⟩:=List.getElem?_eq_some_iff.1 h1;obtain ⟨b1,b2⟩:=List.getElem?_eq_some_iff.1 h3;exact (List.getElem_inj hn).1 (a2.trans b2.symm)
 ·obtain ⟨q,h1,h2⟩:=hb i b hi;exact h.own q b h2
 ·obtain ⟨q,h3,h4⟩:=hb i b2 h2;exact .inl ⟨q,h4⟩
theorem Inv.view {i E k:Nat} {rows:List (List GV)} {x:Value} (h:Inv B K β Γ w) (hi:Γ[i]?=some (.vech E k rows x)):∃ K1,ca K K1/\iN K1 w/\eY K1 (fun _=>.no) w/\Rel K1 (fun _=>.no) x (.sl k rows):=by
 obtain ⟨K',hK,hr,bd⟩:=h.qR hi;exact ⟨K',hK,bd.fz,⟨bd.tab.le,bd.tab.pow,bd.tab.spc,fun i b h=>by cases h⟩,hr.pc rfl⟩
theorem Inv.Yw (h:Inv B K β Γ w):eY K (fun _=>.no) w:=⟨h.tab.le,h.tab.pow,h.tab.spc,fun i b h=>by cases h⟩
theorem Inv.new (h:iN K w) (ht:eY K (fun _=>.no) w):Inv ⟨w,gP,K,fun _=>.no,0⟩ K (fun _=>.no) [] w :=
 ⟨Ext.refl w,ca.refl _,cX.refl _,fun _ _=>rfl,h,fun i x h=>by simp at h,fun _ _=>rfl,fun i j b h=>(by cases h),fun i b h=>(by cases h),fun b o g h=>.inl h,ht⟩
theorem Inv.KS {i idx o j E k T k':Nat} {rows ks:List (List GV)} {x h:Value} {r:List GV} (hI:Inv B K β Γ w) (hi:Γ[i]?=some (.vech T k rows h)) (hr:rows[idx]?=some r) (ho:r[o]?=some (.v x)) (bK:i≠j) (hj:Γ[j]?=some (.vech E k' ks x)) :
  ∃ K',ca K K'/\Inv B K' β (oset (oset Γ j (.vec E k' ks.length ks)) i (.vech T k (du rows idx o (.sl k' ks)) h)) w:=by
 obtain ⟨K',hK,eL,bd⟩:=hI.qR hj;obtain ⟨xs,h1,h2,h3,h4,h5⟩:=bd.ob i (.vech T k rows h) (by rw [aY,getElem?_set,if_neg (fun e=>bK e.symm)];exact hi);have aq:=(List.getElem?_eq_some_iff.1 hr).1
 have FI:o < k:=by rw [<-(h4 r (mem_of_getElem? hr)).1];exact (List.getElem?_eq_some_iff.1 ho).1
 exact ⟨K',hK,bd.swap ⟨xs,by rw [fu];exact h1,by rw [fu];exact h2,by rw [ui FI h4 aq];exact aV.bj eL h3 (th h4 hr ho),yW rfl h4,h5⟩⟩
theorem se {rows:List (List GV)} {i o:Nat} {g:GV} {r:List GV} (hr:rows[i]?=some r):∀ q,(du rows i o g)[q]?=if q=i then some (bj r o g) else rows[q]?:=by
 induction rows generalizing i with
 | nil=>simp at hr
 | cons x rs ih =>
  intro q
  cases i with
  | zero =>
   cases hr
   cases q with
   | zero=>simp [du]
   | succ q=>simp [du]
  | succ i =>
   cases q with
   | zero=>simp [du]
   | succ q =>
    have:=ih (by simpa using hr) q;simp only [du,List.getElem?_cons_succ,this]
    by_cases h:q=i
    ·simp [h]
    ·simp [h]
theorem Inv.Gv {T k o E k' jf N:Nat} {h:Value} {raw fin:Nat->List GV} {ks:Nat->List (List GV)} {hd:Nat->Value} {jp:Nat->Nat} (hI:Inv B K β Γ w) {Eo:List (List GV)} (Zy:Γ[jf]?=some (.vech T k Eo h)) (h0:Eo.length=N/\∀ i,i < N->Eo[i]?=some (raw i))
  (Yc:∀ i,i < N->(raw i)[o]?=some (.v (hd i))/\bj (raw i) o (.sl k' (ks i))=fin i) (jO:∀ i,i < N->Γ[jp i]?=some (.vech E k' (ks i) (hd i))) (bK:∀ i,i < N->jp i≠jf) (FA:∀ i i',i < N->i' < N->jp i=jp i'->i=i') :
  ∃ K' aH rows,ca K K'/\Inv B K' β aH w/\aH[jf]?=some (.vech T k rows h)/\rows.length=N/\(∀ i,i < N->rows[i]?=some (fin i))/\∀ q,q≠jf->(∀ i,i < N->q≠jp i)->aH[q]?=Γ[q]?:=by
 have key:∀ n,n<=N->∃ K' aH rows,ca K K'/\Inv B K' β aH w/\aH[jf]?=some (.vech T k rows h)/\rows.length=N/\(∀ i,i < n->rows[i]?=some (fin i))/\(∀ i,n<=i->i < N->rows[i]?=some (raw i))/\(∀ i,n<=i->i < N->aH[jp i]?=some (.vech E k' (ks i) (hd i)))/\∀ q,q≠jf->(∀ i,i < N->q≠jp i)->aH[q]?=Γ[q]?:=by
  intro n
  induction n with
  | zero=>intro _;exact ⟨K,Γ,Eo,ca.refl K,hI,Zy,h0.1,fun i h=>by omega,fun i _ h=>h0.2 i h,fun i _ h=>jO i h,fun _ _ _=>rfl⟩
  | succ n ih =>
   intro hn;obtain ⟨K',aH,rows,a1,a2,a3,a4,a5,a6,a7,a8⟩:=ih ae;have hr:=a6 n (Nat.le_refl _) ae;obtain ⟨c1,c2⟩:=Yc n ae;obtain ⟨K2,b1,b2⟩:=a2.KS a3 hr c1 (fun e=>bK n ae e.symm) (a7 n (Nat.le_refl _) ae);have aq:=(List.getElem?_eq_some_iff.1 a3).1;refine ⟨K2,_,du rows n o (.sl k' (ks n)),a1.trans b1,b2,?_,by rw [fu];exact a4,fun i hi=>?_,fun i hi MM=>?_,fun i hi MM=>?_,fun q hq W4=>?_⟩
   ·rw [aY,aY,getElem?_set];simp [aq]
   ·rw [se hr,c2]
    by_cases e:i=n
    ·rw [if_pos e,e]
    ·rw [if_neg e];exact a5 i ae
   ·rw [se hr,if_neg ae];exact a6 i ae MM
   ·rw [aY,aY,getElem?_set,if_neg (fun e=>bK i MM e.symm),getElem?_set,if_neg (fun e=>by have:=FA n i ae MM e;omega)];exact a7 i ae MM
   ·rw [aY,aY,getElem?_set,if_neg (fun e=>hq e.symm),getElem?_set,if_neg (fun e=>W4 n ae e.symm)];exact a8 q hq W4
 obtain ⟨K',aH,rows,a1,a2,a3,a4,a5,_,_,a8⟩:=key N (Nat.le_refl _);exact ⟨K',aH,rows,a1,a2,a3,a4,a5,a8⟩
end
section
variable {P:Program} {fn:Func} {R:GV->List Ob->Prop} {fr:List GV} {Γ:List Ob} {e:Exit}
theorem VM {t:Tmp} {x:Value} (aJ:List Nat) (Δ:List Ob) (hr:fn.results=#[.tmp t]) (he:e=.normal\/e=.ret) (hg:cq fr t=.v x) (hl:Δ.length=aJ.length) (hn:aJ.Nodup)
  (hx:∀ (j:Nat) x,Δ[j]?=some x->x.mz=true/\∀ i,aJ[j]?=some i->Γ[i]?=some x) (h:R (.v x) Δ):sG P fn 0 R e fr Γ :=
 ⟨he,fun B K β w l hB hI hF=>⟨nth l t,K,pM β aJ,.v x,Δ,by rw [results_tmp hr,jz],hI.pick hB hl hn hx,by have:=hF.nth t;rw [hg] at this;rw [Rel.dR this];exact .v _,h⟩⟩
theorem VN {t:Tmp} {T:TypeId} {k:Nat} [hT:Ty P T true k] {i:Nat} {E:TypeId} {cs:List GV} (aJ:List Nat) (Δ:List Ob) (hr:fn.results=#[.cell t T]) (he:e=.normal\/e=.ret) (hg:cq fr t=.loc i 0) (br:Γ[i]?=some (.box E cs)) (hk:cs.length=k) (hp:ru cs=true)
  (hl:Δ.length=aJ.length) (hn:aJ.Nodup) (hx:∀ (j:Nat) x,Δ[j]?=some x->x.mz=true/\∀ i,aJ[j]?=some i->Γ[i]?=some x) (h:R (.agg cs) Δ):sG P fn 0 R e fr Γ :=
 ⟨he,fun B K β w l hB hI hF=>by
  obtain ⟨b,vs,h1,h2,h3,h4⟩:=hI.ob i _ br
  have Uc:nth l t=.pointer (some ⟨b,0,none⟩):=by
   have:=hF.nth t;rw [hg] at this;generalize nth l t=v at this
   cases this with
   | loc _ _ b' bg=>rw [h1] at bg;cases bg;rfl
  have kO:l.toArray.getD t undef=.pointer (some ⟨b,0,none⟩):=by rw [jz,Uc]
  have FB:=mW (P:=P) (w:=w) (t:=T) (b:=b) (o:=0) (vs:=vs) (k:=k) (by rw [h3.1,hk]) (fun j v hj=>by
   rw [Nat.zero_add,cell_of_row w b j _ E (0,0) h2];simpa using hj)
  have AL:l[t]?.getD undef=.pointer (some ⟨b,0,none⟩):=by simpa using kO
  have h5:aV K (pM β aJ) vs cs:=h3.ru (me hp)
  exact ⟨.agg vs.toArray,K,pM β aJ,.agg cs,Δ,by simp [results,hr,AL,asAddr,FB],hI.pick hB hl hn hx,.agg vs cs h5.1 h5.2,h⟩⟩
end
section
variable {P:Program} {fn:Func} {R:GV->List Ob->Prop} {fr:List GV} {Γ:List Ob} {e:Exit}
theorem Dk {Γ:List Ob} {n:Nat} (h:∀ x∈Γ.drop n,x.mz=true):(Γ.drop n).length=((List.range (Γ.length - n)).map (·+n)).length/\((List.range (Γ.length - n)).map (·+n)).Nodup /\
  ∀ (j:Nat) x,(Γ.drop n)[j]?=some x->x.mz=true/\∀ i,((List.range (Γ.length - n)).map (·+n))[j]?=some i->Γ[i]?=some x:=by
 refine ⟨by simp,?_,fun j x hj=>⟨h x (mem_of_getElem? hj),fun i hi=>?_⟩⟩
 ·unfold List.Nodup;rw [List.pairwise_map]
  exact List.nodup_range.imp fun bK he=>bK ae
 ·have aq:=(List.getElem?_eq_some_iff.1 hj).1;rw [List.length_drop] at aq;rw [getElem?_map,List.getElem?_range aq] at hi;cases hi;rw [List.getElem?_drop] at hj;show Γ[j+n]?=some x;rw [Nat.add_comm];exact hj
theorem rQ {t:Tmp} {x:Value} (n:Nat) (hr:fn.results=#[.tmp t]) (he:e=.normal\/e=.ret) (hg:cq fr t=.v x) (ha:∀ x∈Γ.drop n,x.mz=true) (h:R (.v x) (Γ.drop n)):sG P fn 0 R e fr Γ :=
 have hd:=Dk ha
 VM _ (Γ.drop n) hr he hg hd.1 hd.2.1 hd.2.2 h
theorem JZ {t:Tmp} {T:TypeId} {k:Nat} [hT:Ty P T true k] {i:Nat} {E:TypeId} {cs:List GV} (n:Nat) (hr:fn.results=#[.cell t T]) (he:e=.normal\/e=.ret) (hg:cq fr t=.loc i 0) (br:Γ[i]?=some (.box E cs)) (hk:cs.length=k) (hp:ru cs=true)
  (ha:∀ x∈Γ.drop n,x.mz=true) (h:R (.agg cs) (Γ.drop n)):sG P fn 0 R e fr Γ :=
 have hd:=Dk ha
 VN _ (Γ.drop n) hr he hg br hk hp hd.1 hd.2.1 hd.2.2 h
end
section
variable {P:Program} {m:Nat} {Q:dP} {fr:List GV} {Γ:List Ob} {ops:Array Oper} {rest:List Oper} {d:Option Tmp} {op:Op} {ty:TypeId} {pos:String} {af:Array Edge}
theorem GL.Xz {t:TypeId} {x:Operand} {cs:List GV} (hx:lV (aP fr x)=some cs) (hp:ru cs=true) (h:GL P m ops Q rest (bh fr d (.box cs 0)) Γ):GL P m ops Q (⟨d,.box t x,ty,pos,af,none⟩::rest) fr Γ:=fun B K β w l hm hI hF=>by
 obtain ⟨vs,h1,h2⟩:=(hF.ev x).cells hx
 refine WL.box rfl fun b w' hn=>?_
 rw [h1] at hn;obtain ⟨hle,bd⟩:=hI.tR hn h2 (me hp);exact h B _ β w' _ hm bd ((hF.mono hle (cX.refl β)).put d (Rel.box (K:=kv K b cs) (β:=β) b 0 0 cs (fun j g hg=>by rw [Nat.zero_add];exact uM hg)))
theorem GL.borrow {f:FuncId} [hf:aC P f] {args:List Operand} {l8:Array TypeId} {gs:List GV} {v:Value} (hc:GF P f gs [] (.v v) [])
  (hv:∀ B K β w l,Inv B K β Γ w->FR K β fr l->∃ K1,iN K1 w/\eY K1 (fun _=>.no) w/\aV K1 (fun _=>.no) (args.map (ev l)) gs)
  (h:GL P m ops Q rest (bh fr d (.v v)) Γ):GL P m ops Q (⟨d,.call ⟨.value (.func f),args.toArray,l8⟩,ty,pos,af,none⟩::rest) fr Γ:=fun B K β w l hm hI hF=>by
 obtain ⟨K1,h1,h2,h3⟩:=hv B K β w l hI hF
 have rj:(execOp (ev l) ⟨d,.call ⟨.value (.func f),args.toArray,l8⟩,ty,pos,af,none⟩).run P w=.ok (.enter f (args.map (ev l)).toArray) w:=by simp [execOp,resolve,ev,Deferred.ofValue,invoke,lk]
 refine WL.calls rj (hc _ K1 _ w _ rfl (Inv.new h1 h2) h3) ?_;rintro x w' ⟨K',bL,g,aH,bd,eL,rfl,rfl⟩;exact h B K β w' _ hm (hI.same bd.ext) (hF.put d (by rw [Rel.dR eL];exact .v _))
theorem GL.H3 {f:FuncId} [hf:aC P f] {args:List Operand} {l8:Array TypeId} {gs:List GV} {E k n:Nat} {rows:List (List GV)} (hc:GC P f gs [] fun g Δ=>∃ a c,g=.v (.slice a n c)/\Δ=[.vech E k rows (.slice a n c)])
  (hn:rows.length=n) (jF:∀ r∈rows,∀ g∈r,∃ x,g=.v x)
  (hv:∀ B K β w l,Inv B K β Γ w->FR K β fr l->∃ K1,iN K1 w/\eY K1 (fun _=>.no) w/\aV K1 (fun _=>.no) (args.map (ev l)) gs)
  (h:∀ a c,GL P m ops Q rest (bh fr d (.v (.slice a n c))) (Γ++[.vech E k rows (.slice a n c)])):GL P m ops Q (⟨d,.call ⟨.value (.func f),args.toArray,l8⟩,ty,pos,af,none⟩::rest) fr Γ:=fun B K β w l hm hI hF=>by
 obtain ⟨K1,h1,h2,h3⟩:=hv B K β w l hI hF
 have rj:(execOp (ev l) ⟨d,.call ⟨.value (.func f),args.toArray,l8⟩,ty,pos,af,none⟩).run P w=.ok (.enter f (args.map (ev l)).toArray) w:=by simp [execOp,resolve,ev,Deferred.ofValue,invoke,lk]
 refine WL.calls rj (hc _ K1 _ w _ rfl (Inv.new h1 h2) h3) ?_;rintro x w' ⟨K',bL,g,aH,bd,eL,a,c,rfl,rfl⟩;subst hn;obtain ⟨xs,e1,e2,e3,e4,e5⟩:=bd.ob 0 _ rfl;have hIs:=hI.same bd.ext
 have yP:∀ g∈rows.flatten,∃ x,g=.v x:=fun g hg=>by
  obtain ⟨r,h5,h6⟩:=List.mem_flatten.1 hg;exact jF r h5 g h6
 have hr:aV K β xs rows.flatten:=⟨e3.1,fun i v g h5 h6=>by
  obtain ⟨y,rfl⟩:=yP g (mem_of_getElem? h6)
  rw [Rel.dR (e3.2 i v _ h5 h6)];exact .v _⟩
 have dr:∀ b,(Value.slice a rows.length c).ownBlock=some b->w.heap.size<=b:=fun b hb=>by
  rcases bd.own 0 b (by rw [e1];exact hb) with h5 | h5
  ·exact h5.elim
  ·exact h5
 have bR:β Γ.length=.no:=hI.out _ (Nat.le_refl _);have nG:=hI.Ci (w':=w') (x:=.slice a rows.length c) bd.ext e2 dr hr e4;have hb:ep β Γ.length (.gr (.slice a rows.length c) rows.length) Γ.length=.gr (.slice a rows.length c) rows.length:=ba;have hle:cX β (ep β Γ.length (.gr (.slice a rows.length c) rows.length)):=fM (by rw [bR];trivial)
 have Fo:=nG.swap (i:=Γ.length) (y:=.vech E k rows (.slice a rows.length c)) ⟨xs,hb,e2,hr.mono (ca.refl K) hle,e4,fun b hb o=>by
  cases hk:K b o with
  | none=>rfl
  | some g=>have:=hI.fz.lt hk;have:=dr b hb;omega⟩
 rw [aY] at Fo;simp only [length_append,length_cons,length_nil,List.set_append_right _ _ (Nat.le_refl _),Nat.sub_self,set_cons_zero] at Fo;exact h a c B K _ w' _ hm Fo ((hF.mono (ca.refl K) hle).put d (by rw [Rel.dR eL];exact .v _))
theorem tj {P:Program} {w:World} {t e ty:TypeId} {i:TypeInfo} (hu:P.underlying t=some (.slice e)) (hi:P.info? e=some i) (a b:Option Addr) (n c d:Nat) (hc:n<=c) :
  (Builtin.append_ #[t,t] ty #[.slice a n c,.slice b 0 d]).run P w=.ok (.slice a n c) w:=by
 cases a <;> cases b <;> simp [Builtin.append_,run_underlying hu,sizeOf,typeInfo,hi,Builtin.lenOf,hc,Builtin.firstCells,loadCells,loadCellsFrom,storeCells]
theorem GL.Vx {s x:Operand} {t e k gD:Nat} [hT:nT P t e k gD] (i:Nat) {dt:Tmp} {v:Value} {rows:List (List GV)} (hx:aP fr x=.sl k []) (hs:aP fr s=.v v) (br:Γ[i]?=some (.vech e k rows v))
  (h:GL P m ops Q rest (bh fr (some dt) (.v v)) Γ):GL P m ops Q (⟨some dt,.call ⟨.builtin .append,#[s,x],#[t,t]⟩,ty,pos,af,none⟩::rest) fr Γ:=fun B K β w l hm hI hF=>by
 obtain ⟨hu,⟨j,z,hi,_⟩,_⟩:=hT.parts;obtain ⟨xs,o1,o2,_⟩:=hI.ob i _ br;have qd:ev l s=v:=hF.gE hs;have rl:=hF.ev x;rw [hx] at rl;generalize rm:ev l x=vx at rl
 obtain ⟨b,d',rfl⟩:∃ b d',vx=.slice b 0 d':=by
  cases rl with
  | sl0 a c k=>exact ⟨a,c,rfl⟩
  | sl b o c _ _ hr _=>exact ⟨_,_,rfl⟩
 obtain ⟨a,n,c,rfl,hc⟩:∃ a n c,v=.slice a n c/\n<=c:=by
  rcases o2.2 with ⟨e1,e2⟩ | ⟨g,cap,cur,e1,_,_,e2,_⟩
  ·exact ⟨_,_,_,e1,Nat.le_refl _⟩
  ·exact ⟨_,_,_,e1,e2⟩
 have mj:=tj (P:=P) (w:=w) (ty:=ty) hu hi a b n c d' hc;exact WL.val (v:=.slice a n c) (w':=w) (by simp [execOp,resolve,invoke,builtin,qd,rm,mj]) (h B K β w _ hm hI (hF.put _ (.v _)))
theorem GL.VB {s x:Operand} {t e k gD:Nat} [hT:nT P t e k gD] {i n fz:Nat} {dt:Tmp} {rows:List (List GV)} (hx:aP fr x=.sl k []) (hs:aP fr s=.vec i n) (br:Γ[i]?=some (.vec e k fz rows)) (hn:rows.length=n)
  (h:GL P m ops Q rest (bh fr (some dt) (.vec i n)) Γ):GL P m ops Q (⟨some dt,.call ⟨.builtin .append,#[s,x],#[t,t]⟩,ty,pos,af,none⟩::rest) fr Γ:=fun B K β w l hm hI hF=>by
 subst hn;obtain ⟨hu,⟨j,z,hi,_⟩,_⟩:=hT.parts;obtain ⟨h0,xs,o1,o2,_⟩:=hI.ob i _ br;have sQ:=hF.ev s;rw [hs] at sQ
 have qd:ev l s=h0:=by
  generalize hv:ev l s=v at sQ
  cases sQ with
  | vec _ _ a c hh =>
   obtain ⟨h',m',e1,e2,e3⟩:=hh;rw [o1] at e1;cases e1;exact e3 rfl
 have rl:=hF.ev x;rw [hx] at rl;generalize rm:ev l x=vx at rl
 obtain ⟨b,d',rfl⟩:∃ b d',vx=.slice b 0 d':=by
  cases rl with
  | sl0 a c k=>exact ⟨a,c,rfl⟩
  | sl b o c _ _ hr _=>exact ⟨_,_,rfl⟩
 obtain ⟨a,n,c,rfl,hc⟩:∃ a n c,h0=.slice a n c/\n<=c:=by
  rcases o2.2 with ⟨e1,e2⟩ | ⟨g,cap,cur,e1,_,_,e2,_⟩
  ·exact ⟨_,_,_,e1,Nat.le_refl _⟩
  ·exact ⟨_,_,_,e1,e2⟩
 have mj:=tj (P:=P) (w:=w) (ty:=ty) hu hi a b n c d' hc;exact WL.val (v:=.slice a n c) (w':=w) (by simp [execOp,resolve,invoke,builtin,qd,rm,mj]) (h B K β w _ hm hI (hF.put _ (by have:=hF.ev s;rw [hs,qd] at this;exact this)))
theorem DS {Γ:List Ob} {i:Nat} {x:Ob} (h:Γ[i]?=some x):oset Γ i x=Γ:=by
 rw [aY];apply List.ext_getElem?;intro j;rw [getElem?_set]
 by_cases e:i=j
 ·subst e;have:=(List.getElem?_eq_some_iff.1 h).1;rw [if_pos rfl,if_pos this,h]
 ·rw [if_neg e]
theorem GL.Eh {s x:Operand} {t e k gD:Nat} [hT:nT P t e k gD] (i:Nat) {n:Nat} {dt:Tmp} {a0:Option Addr} {c0:Nat} {rows news:List (List GV)} (hx:aP fr x=.sl k news) (hs:aP fr s=.v (.slice a0 n c0)) (br:Γ[i]?=some (.vech e k rows (.slice a0 n c0))) (hn:rows.length=n) (h1:lN news=true)
  (hb:n+news.length<=9223372036854775807/\(n+news.length) * gD<=140737488355328)
  (h:∀ a c,GL P m ops Q rest (bh fr (some dt) (.v (.slice a (n+news.length) c))) (oset Γ i (.vech e k (rows++news) (.slice a (n+news.length) c)))) :
  GL P m ops Q (⟨some dt,.call ⟨.builtin .append,#[s,x],#[t,t]⟩,ty,pos,af,none⟩::rest) fr Γ:=by
 cases news with
 | nil =>
  have h0:=h a0 c0;rw [append_nil,show n+([]:List (List GV)).length=n from rfl,DS br] at h0;exact GL.Vx i hx hs br h0
 | cons r rs=>exact GL.qh i hx hs br hn h1 rfl hb h
theorem GL.VA {s x:Operand} {t e k gD:Nat} [hT:nT P t e k gD] {i n fz:Nat} {dt:Tmp} {rows news:List (List GV)} (hx:aP fr x=.sl k news) (hs:aP fr s=.vec i n) (br:Γ[i]?=some (.vec e k fz rows)) (hn:rows.length=n) (h1:lN news=true)
  (hb:n+news.length<=9223372036854775807/\(n+news.length) * gD<=140737488355328)
  (h:GL P m ops Q rest (bh fr (some dt) (.vec i (n+news.length))) (oset Γ i (.vec e k fz (rows++news)))) :
  GL P m ops Q (⟨some dt,.call ⟨.builtin .append,#[s,x],#[t,t]⟩,ty,pos,af,none⟩::rest) fr Γ:=by
 cases news with
 | nil =>
  rw [append_nil,show n+([]:List (List GV)).length=n from rfl,DS br] at h;exact GL.VB hx hs br hn h
 | cons r rs=>exact GL.app hx hs br hn h1 rfl hb h
theorem NL:∀ (us vs:List Value),vs.length=us.length->gw vs 0 us=us:=by
 have key:∀ (us a vs:List Value),vs.length=us.length->gw (a++vs) a.length us=a++us:=by
  intro us
  induction us with
  | nil=>intro a vs h;rw [List.eq_nil_of_length_eq_zero h];rfl
  | cons u us ih =>
   intro a vs h
   cases vs with
   | nil=>simp at h
   | cons v vs =>
    have hu:eK (a++v::vs) a.length u=(a++[u])++vs:=by
     clear ih h
     induction a with
     | nil=>rfl
     | cons x a ih=>rw [cons_append,length_cons,eK,ih];rfl
    have:=ih (a++[u]) vs (by simpa using h);rw [length_append,List.length_singleton] at this;rw [gw,hu,this];simp
 intro us vs h;exact key us [] vs h
theorem GL.UN {t:TypeId} {z:Value} {agg:Bool} {k:Nat} [hZ:pV P t z] [hT:Ty P t agg k] {dt ts:Tmp} {cs:List GV} {ty2:TypeId} {Yu:String} {YL:Array Edge} {d2:Option Tmp} (Z4:z.cells.size=k) (hy:lV (cq fr ts)=some cs) (bK:Nat.beq ts dt=false) (gh:jj fr dt=true) (hk:cs.length=k) (h1:lM cs=true) (hp:ru cs=true)
  (h:GL P m ops Q rest (bh (bh fr (some dt) (.box cs 0)) d2 (.v undef)) Γ):GL P m ops Q (⟨some dt,.alloc t,ty,pos,af,none⟩::⟨d2,.store t (.tmp dt) (.tmp ts),ty2,Yu,YL,none⟩::rest) fr Γ:=fun B K β w l hm hI hF=>by
 refine WL.alloc (z:=z) fun b w1 hn=>?_
 obtain ⟨us,jK,kj⟩:=(hF.nth ts).cells hy
 have FF:ts≠dt:=by intro e;subst e;simp at bK
 have Ut:ev (put l (some dt) (.pointer (some ⟨b,0,none⟩))) (.tmp ts)=nth l ts:=nz FF _;have IG:ev (put l (some dt) (.pointer (some ⟨b,0,none⟩))) (.tmp dt)=.pointer (some ⟨b,0,none⟩):=r9 (lY hF gh) _
 have DB:us.length=k:=by rw [kj.1,hk]
 refine WL.st (t:=t) (k:=k) IG Ut hn.blk (by rw [jK];simpa using DB) ae (by rw [jK];simpa using kj.lf h1) fun w2 hs=>?_
 have b6:uF z.cells 0 us=us.toArray:=by
  have:=uj us z.cells.toList 0;rw [NL us _ (by rw [Array.length_toList,Z4,DB])] at this;simpa using this
 rw [jK,toList_toArray,b6] at hs;have X7:uK w w2 b (.cells us.toArray t):=⟨hn.fresh,by rw [hs.size];exact hn.size,hs.blk,hn.ext.step hs.ext fun j hj=>.inl (by subst hj;rw [hn.fresh];exact Nat.le_refl _)⟩;obtain ⟨hle,bd⟩:=hI.tR X7 kj (me hp);exact h B _ β w2 _ hm bd (((hF.mono hle (cX.refl β)).put (some dt) (Rel.box (K:=kv K b cs) (β:=β) b 0 0 cs (fun j g hg=>by rw [Nat.zero_add];exact uM hg))).put d2 (.v _))
end
end Go.Xg
namespace Go.Xg
open Go.RowKit Go.Xw Go.Proofs
open Go.Xp (Nd Ar)
open Go.Sp (Src)
open Go.Im (kC kB kA)
attribute [local irreducible] GW GL GO YG GC GA aS aW
def bV (l:List ah):List (List GV):=l.map fun s=>[GV.v (sv s)]
def bm (l:List Int):List (List GV):=l.map fun i=>[GV.v (ii i)]
def Hd (n:Nat) (h:Value):Prop:=∃ a c,h=.slice a n c
theorem zQ (l:List ah) (hl:l.length<=1048576):GC Tryz.prog 41 [strs l] [] fun g Δ=>∃ h,Hd l.length h/\g=.v h/\Δ=[.vech 9 1 (bV l) h]:=by
 have hm:(l.map (fun s=>[GV.v (sv s)])).length=l.length:=by simp
 refine ai Tryz.func41 Tryz.ntmps41 ?_;refine GL.zI rfl ⟨by omega,by omega⟩ ?_;intro a c;refine bI ?_;refine ab ?_;refine GW.loop (fun k:Nat=>l.length - k) (fun k fr Γ=>∃ R Z,fr=[strs l,.aaF,.aaF,.v (.slice a (l.map (fun s=>[GV.v (sv s)])).length c),.v (ii (k:Nat)),.aaF,.aaF,.aaF,.aaF,.aaF,.aaF,.aaF,.aaF,.aaF,.aaF,.aaF,.aaF,.aaF,.aaF,.aaF,.aaF,.aaF]/\Γ=[.vech 9 1 R (.slice a (l.map (fun s=>[GV.v (sv s)])).length c)]/\k<=l.length/\R=(l.take k).map (fun s=>[GV.v (sv s)])++List.replicate (l.length - k) Z) 0 ?_ ?_
 ·exact ⟨_,_,Wk.aw al,_,_,rfl,rfl,Nat.zero_le _,by rw [hm];rfl⟩
 rintro k _ _ ⟨R,Z,rfl,rfl,hk,hR⟩
 have mO:R.length=l.length:=by rw [hR];exact kB hk
 have eu:R.length=(l.map (fun s=>[GV.v (sv s)])).length:=by rw [hm];exact mO
 by_cases aq:k < l.length
 ·have hx:l[k]?=some l[k]:=by simp [aq]
  have hr:(l.map (fun s=>[GV.v (sv s)]))[k]?=some ((fun s=>[GV.v (sv s)]) l[k]):=by rw [getElem?_map,hx];rfl
  have dc:decide ((k:Int) < ((l.map (fun s=>[GV.v (sv s)])).length:Int))=true:=by rw [hm];simpa using aq
  have b6:=kC (f:=(fun s=>[GV.v (sv s)])) (Z:=Z) hx;rw [<-hR] at b6;clear hR;generalize l[k]=x at *;refine ab ?_;refine jq ?_;refine ab ?_;exact ⟨k+1,⟨_,_,Wk.aw al,_,Z,rfl,rfl,aq,b6⟩,by show l.length - (k+1) < l.length - k;omega⟩
 ·have dc:decide ((k:Int) < ((l.map (fun s=>[GV.v (sv s)])).length:Int))=false:=by rw [hm];simpa using aq
  have kZ:k=l.length:=by omega
  subst kZ;rw [kA] at hR;subst hR;refine ab ?_;refine aU ?_;refine ab ?_
  (repeat (first | refine GW.ret ?_ | refine cr ?_ | refine cn ?_ | refine aD ?_ | refine bQ ?_))
  exact rQ 0 rfl (by first | exact .inr rfl | exact .inl rfl) rfl (fun x hx=>by rw [List.mem_singleton.1 hx];rfl) ⟨_,⟨_,_,by rw [hm]⟩,rfl,rfl⟩
theorem P8 (l:List Int) (hl:l.length<=1048576):GC Tryz.prog 135 [ints l] [] fun g Δ=>∃ h,Hd l.length h/\g=.v h/\Δ=[.vech 3 1 (bm l) h]:=by
 have hm:(l.map (fun i=>[GV.v (ii i)])).length=l.length:=by simp
 refine ai Tryz.func135 Tryz.ntmps135 ?_;refine GL.zI rfl ⟨by omega,by omega⟩ ?_;intro a c;refine bI ?_;refine ab ?_;refine GW.loop (fun k:Nat=>l.length - k) (fun k fr Γ=>∃ R Z,fr=[ints l,.aaF,.aaF,.v (.slice a (l.map (fun i=>[GV.v (ii i)])).length c),.v (ii (k:Nat)),.aaF,.aaF,.aaF,.aaF,.aaF,.aaF,.aaF,.aaF,.aaF,.aaF,.aaF,.aaF,.aaF,.aaF,.aaF,.aaF,.aaF]/\Γ=[.vech 3 1 R (.slice a (l.map (fun i=>[GV.v (ii i)])).length c)]/\k<=l.length/\R=(l.take k).map (fun i=>[GV.v (ii i)])++List.replicate (l.length - k) Z) 0 ?_ ?_
 ·exact ⟨_,_,Wk.aw al,_,_,rfl,rfl,Nat.zero_le _,by rw [hm];rfl⟩
 rintro k _ _ ⟨R,Z,rfl,rfl,hk,hR⟩
 have mO:R.length=l.length:=by rw [hR];exact kB hk
 have eu:R.length=(l.map (fun i=>[GV.v (ii i)])).length:=by rw [hm];exact mO
 by_cases aq:k < l.length
 ·have hx:l[k]?=some l[k]:=by simp [aq]
  have hr:(l.map (fun i=>[GV.v (ii i)]))[k]?=some ((fun i=>[GV.v (ii i)]) l[k]):=by rw [getElem?_map,hx];rfl
  have dc:decide ((k:Int) < ((l.map (fun i=>[GV.v (ii i)])).length:Int))=true:=by rw [hm];simpa using aq
  have b6:=kC (f:=(fun i=>[GV.v (ii i)])) (Z:=Z) hx;rw [<-hR] at b6;clear hR;generalize l[k]=x at *;refine ab ?_;refine jq ?_;refine ab ?_;exact ⟨k+1,⟨_,_,Wk.aw al,_,Z,rfl,rfl,aq,b6⟩,by show l.length - (k+1) < l.length - k;omega⟩
 ·have dc:decide ((k:Int) < ((l.map (fun i=>[GV.v (ii i)])).length:Int))=false:=by rw [hm];simpa using aq
  have kZ:k=l.length:=by omega
  subst kZ;rw [kA] at hR;subst hR;refine ab ?_;refine aU ?_;refine ab ?_
  (repeat (first | refine GW.ret ?_ | refine cr ?_ | refine cn ?_ | refine aD ?_ | refine bQ ?_))
  exact rQ 0 rfl (by first | exact .inr rfl | exact .inl rfl) rfl (fun x hx=>by rw [List.mem_singleton.1 hx];rfl) ⟨_,⟨_,_,by rw [hm]⟩,rfl,rfl⟩
theorem K8 (l:List Ar) (hl:l.length<=1048576):GC Tryz.prog 42 [.sl 2 (l.map aB)] [] fun g Δ=>∃ h,Hd l.length h/\g=.v h/\Δ=[.vech 88 2 (List.map aB l) h]:=by
 have hm:(l.map (aB)).length=l.length:=by simp
 refine ai Tryz.func42 Tryz.ntmps42 ?_;refine GL.zI rfl ⟨by omega,by omega⟩ ?_;intro a c;refine bI ?_;refine ab ?_;refine GW.loop (fun k:Nat=>l.length - k) (fun k fr Γ=>∃ R Z,fr=[.sl 2 (l.map aB),.aaF,.aaF,.v (.slice a (l.map (aB)).length c),.v (ii (k:Nat)),.aaF,.aaF,.aaF,.aaF,.aaF,.aaF,.aaF,.aaF,.aaF,.aaF,.aaF,.aaF,.aaF,.aaF,.aaF,.aaF,.aaF,.aaF]/\Γ=[.vech 88 2 R (.slice a (l.map (aB)).length c)]/\k<=l.length/\R=(l.take k).map (aB)++List.replicate (l.length - k) Z) 0 ?_ ?_
 ·exact ⟨_,_,Wk.aw al,_,_,rfl,rfl,Nat.zero_le _,by rw [hm];rfl⟩
 rintro k _ _ ⟨R,Z,rfl,rfl,hk,hR⟩
 have mO:R.length=l.length:=by rw [hR];exact kB hk
 have eu:R.length=(l.map (aB)).length:=by rw [hm];exact mO
 by_cases aq:k < l.length
 ·have hx:l[k]?=some l[k]:=by simp [aq]
  have hr:(l.map (aB))[k]?=some ((aB) l[k]):=by rw [getElem?_map,hx];rfl
  have dc:decide ((k:Int) < ((l.map (aB)).length:Int))=true:=by rw [hm];simpa using aq
  have b6:=kC (f:=(aB)) (Z:=Z) hx;rw [<-hR] at b6;have hc:=D5 l[k];clear hR;generalize l[k]=x at *;refine ab ?_;refine U [] (hc) ?_;refine jq ?_;refine ab ?_;exact ⟨k+1,⟨_,_,Wk.aw al,_,Z,rfl,rfl,aq,b6⟩,by show l.length - (k+1) < l.length - k;omega⟩
 ·have dc:decide ((k:Int) < ((l.map (aB)).length:Int))=false:=by rw [hm];simpa using aq
  have kZ:k=l.length:=by omega
  subst kZ;rw [kA] at hR;subst hR;refine ab ?_;refine aU ?_;refine ab ?_
  (repeat (first | refine GW.ret ?_ | refine cr ?_ | refine cn ?_ | refine aD ?_ | refine bQ ?_))
  exact rQ 0 rfl (by first | exact .inr rfl | exact .inl rfl) rfl (fun x hx=>by rw [List.mem_singleton.1 hx];rfl) ⟨_,⟨_,_,by rw [hm]⟩,rfl,rfl⟩
def pP (x:Go.Sp.Fn) (h:Value):List GV:=[.v (sv x.name),.v h,.v (ii x.body)]
def qS (x:Go.Sp.Fn) (h:Value):Ob:=.vech 9 1 (bV x.params) h
theorem Vh (x:Go.Sp.Fn) (hp:x.params.length<=1048576):GC Tryz.prog 101 [.agg (au x)] [] fun g Δ=>∃ h,Hd x.params.length h/\g=.agg (pP x h)/\Δ=[qS x h]:=by
 have h0:=zQ x.params hp;refine ai Tryz.func101 Tryz.ntmps101 ?_;refine bJ [] (h0) ?_;rintro _ _ ⟨_,⟨a1,c1,rfl⟩,rfl,rfl⟩;refine cj ?_;refine ab ?_
 (repeat (first | refine GW.ret ?_ | refine cr ?_ | refine cn ?_ | refine aD ?_ | refine bQ ?_))
 refine JZ 3 rfl (by first | exact .inr rfl | exact .inl rfl) rfl rfl rfl rfl ?_ ?_
 ·intro x hx;rw [List.mem_singleton.1 hx];rfl
 ·exact ⟨_,⟨_,_,rfl⟩,rfl,rfl⟩
theorem SW (l:List Go.Sp.Fn) (hl:l.length<=1048576) (he:∀ x∈l,x.params.length<=1048576):GC Tryz.prog 43 [.sl 3 (l.map au)] [] fun g Δ=>∃ h hs,Hd l.length h/\hs.length=l.length/\(∀ (i:Nat) x y,l[i]?=some x->hs[i]?=some y->Hd x.params.length y)/\g=.v h /\
  Δ=.vech 60 3 (List.zipWith pP l hs) h::List.zipWith qS l hs:=by
 have hm:(l.map au).length=l.length:=by simp
 refine ai Tryz.func43 Tryz.ntmps43 ?_;refine GL.zI rfl ⟨by omega,by omega⟩ ?_;intro a c;refine bI ?_;refine ab ?_
 refine GW.loop (fun k:Nat=>l.length - k) (fun k fr Γ=>∃ R Z hs,fr=[.sl 3 (l.map au),.aaF,.aaF,.v (.slice a (l.map au).length c),.v (ii (k:Nat)),.aaF,.aaF,.aaF,.aaF,.aaF,.aaF,.aaF,.aaF,.aaF,.aaF,.aaF,.aaF,.aaF,.aaF,.aaF,.aaF,.aaF,.aaF]/\Γ=.vech 60 3 R (.slice a (l.map au).length c)::List.zipWith qS (l.take k) hs/\k<=l.length/\hs.length=k /\
  (∀ (i:Nat) x y,l[i]?=some x->hs[i]?=some y->Hd x.params.length y)/\R=List.zipWith pP (l.take k) hs++List.replicate (l.length - k) Z) 0 ?_ ?_
 ·exact ⟨_,_,Wk.aw al,_,_,[],rfl,rfl,Nat.zero_le _,rfl,(fun i x y _ h=>by simp at h),by rw [hm];rfl⟩
 rintro k _ _ ⟨R,Z,hs,rfl,rfl,hk,Fx,MK,hR⟩
 have mO:R.length=l.length:=by rw [hR,length_append,length_zipWith,length_take,length_replicate];omega
 have eu:R.length=(l.map au).length:=by rw [hm];exact mO
 by_cases aq:k < l.length
 ·have hx:l[k]?=some l[k]:=by simp [aq]
  have hr:(l.map au)[k]?=some (au l[k]):=by rw [getElem?_map,hx];rfl
  have dc:decide ((k:Int) < ((l.map au).length:Int))=true:=by rw [hm];simpa using aq
  have hex:=he _ (mem_of_getElem? hx);have hc:=Vh l[k] hex
  have jJ:l.take (k+1)=l.take k++[l[k]]:=by rw [take_add_one,hx];rfl
  have MW:∀ {γ:Type} (f:Go.Sp.Fn->Value->γ) (h:Value),List.zipWith f (l.take (k+1)) (hs++[h])=List.zipWith f (l.take k) hs++[f l[k] h]:=fun f h=>by
   rw [jJ,List.zipWith_append (by rw [length_take];omega)];rfl
  have b6:∀ h,R.set k (pP l[k] h)=List.zipWith pP (l.take (k+1)) (hs++[h])++List.replicate (l.length - (k+1)) Z:=fun h=>by
   have hz:(List.zipWith pP (l.take k) hs).length=k:=by rw [length_zipWith,length_take];omega
   rw [hR,MW,show l.length - k=(l.length - (k+1))+1 by omega,List.replicate_succ,List.set_append_right _ _ ae,hz,Nat.sub_self,set_cons_zero];simp
  have O5:∀ h,Hd l[k].params.length h->∀ (i:Nat) x y,l[i]?=some x->(hs++[h])[i]?=some y->Hd x.params.length y:=fun h hh i x y h1 h2=>by
   by_cases hik:i < hs.length
   ·rw [List.getElem?_append_left hik] at h2;exact MK i x y h1 h2
   ·have h3:=(List.getElem?_eq_some_iff.1 h2).1;rw [length_append,List.length_singleton] at h3
    have:i=k:=by omega
    subst this;rw [getElem?_append_right ae,Fx,Nat.sub_self] at h2;rw [hx] at h1
    cases h1;cases h2;exact hh
  clear hR;have T9:=MW qS;unfold pP qS at hc;generalize ZD:l[k]=x at *;refine ab ?_;refine bJ [] (hc) ?_;rintro _ _ ⟨_,⟨a1,c1,rfl⟩,rfl,rfl⟩;refine cj ?_;refine ab ?_;refine jq ?_;refine ab ?_;refine ⟨k+1,⟨_,_,Wk.aw al,_,Z,hs++[_],rfl,?_,aq,by simp [Fx],O5 _ ⟨a1,c1,rfl⟩,b6 _⟩,by show l.length - (k+1) < l.length - k;omega⟩;rw [T9];rfl
 ·have dc:decide ((k:Int) < ((l.map au).length:Int))=false:=by rw [hm];simpa using aq
  have kZ:k=l.length:=by omega
  subst kZ;rw [take_length,Nat.sub_self,List.replicate_zero,append_nil] at hR;subst hR;rw [take_length];refine ab ?_;refine aU ?_;refine ab ?_
  (repeat (first | refine GW.ret ?_ | refine cr ?_ | refine cn ?_ | refine aD ?_ | refine bQ ?_))
  refine rQ 0 rfl (by first | exact .inr rfl | exact .inl rfl) rfl (fun x hx=>?_) ⟨_,hs,⟨_,_,by rw [hm]⟩,Fx,MK,rfl,rfl⟩
  rcases List.mem_cons.1 hx with rfl | hx
  ·rfl
  ·obtain ⟨i,hi⟩:=getElem?_of_mem hx;rw [List.getElem?_zipWith] at hi;split at hi
   ·cases hi;rfl
   ·cases hi
def ln (x:Nd) (h:Value):List GV:=[.v (ii x.kind),.v (ii x.at_),.v (ii x.n),.v (sv x.s),.v h]
def mh (x:Nd) (h:Value):Ob:=.vech 3 1 (bm x.kids) h
theorem Qa (x:Nd) (hp:x.kids.length<=1048576):GC Tryz.prog 102 [.agg (ax x)] [] fun g Δ=>∃ h,Hd x.kids.length h/\g=.agg (ln x h)/\Δ=[mh x h]:=by
 have h0:=P8 x.kids hp;refine ai Tryz.func102 Tryz.ntmps102 ?_;refine bJ [] (h0) ?_;rintro _ _ ⟨_,⟨a1,c1,rfl⟩,rfl,rfl⟩;refine cj ?_;refine ab ?_
 (repeat (first | refine GW.ret ?_ | refine cr ?_ | refine cn ?_ | refine aD ?_ | refine bQ ?_))
 refine JZ 3 rfl (by first | exact .inr rfl | exact .inl rfl) rfl rfl rfl rfl ?_ ?_
 ·intro x hx;rw [List.mem_singleton.1 hx];rfl
 ·exact ⟨_,⟨_,_,rfl⟩,rfl,rfl⟩
theorem N0 (l:List Nd) (hl:l.length<=1048576) (he:∀ x∈l,x.kids.length<=1048576):GC Tryz.prog 44 [.sl 5 (l.map ax)] [] fun g Δ=>∃ h hs,Hd l.length h/\hs.length=l.length/\(∀ (i:Nat) x y,l[i]?=some x->hs[i]?=some y->Hd x.kids.length y)/\g=.v h /\
  Δ=.vech 91 5 (List.zipWith ln l hs) h::List.zipWith mh l hs:=by
 have hm:(l.map ax).length=l.length:=by simp
 refine ai Tryz.func44 Tryz.ntmps44 ?_;refine GL.zI rfl ⟨by omega,by omega⟩ ?_;intro a c;refine bI ?_;refine ab ?_
 refine GW.loop (fun k:Nat=>l.length - k) (fun k fr Γ=>∃ R Z hs,fr=[.sl 5 (l.map ax),.aaF,.aaF,.v (.slice a (l.map ax).length c),.v (ii (k:Nat)),.aaF,.aaF,.aaF,.aaF,.aaF,.aaF,.aaF,.aaF,.aaF,.aaF,.aaF,.aaF,.aaF,.aaF,.aaF,.aaF,.aaF,.aaF]/\Γ=.vech 91 5 R (.slice a (l.map ax).length c)::List.zipWith mh (l.take k) hs/\k<=l.length/\hs.length=k /\
  (∀ (i:Nat) x y,l[i]?=some x->hs[i]?=some y->Hd x.kids.length y)/\R=List.zipWith ln (l.take k) hs++List.replicate (l.length - k) Z) 0 ?_ ?_
 ·exact ⟨_,_,Wk.aw al,_,_,[],rfl,rfl,Nat.zero_le _,rfl,(fun i x y _ h=>by simp at h),by rw [hm];rfl⟩
 rintro k _ _ ⟨R,Z,hs,rfl,rfl,hk,Fx,MK,hR⟩
 have mO:R.length=l.length:=by rw [hR,length_append,length_zipWith,length_take,length_replicate];omega
 have eu:R.length=(l.map ax).length:=by rw [hm];exact mO
 by_cases aq:k < l.length
 ·have hx:l[k]?=some l[k]:=by simp [aq]
  have hr:(l.map ax)[k]?=some (ax l[k]):=by rw [getElem?_map,hx];rfl
  have dc:decide ((k:Int) < ((l.map ax).length:Int))=true:=by rw [hm];simpa using aq
  have hex:=he _ (mem_of_getElem? hx);have hc:=Qa l[k] hex
  have jJ:l.take (k+1)=l.take k++[l[k]]:=by rw [take_add_one,hx];rfl
  have MW:∀ {γ:Type} (f:Nd->Value->γ) (h:Value),List.zipWith f (l.take (k+1)) (hs++[h])=List.zipWith f (l.take k) hs++[f l[k] h]:=fun f h=>by
   rw [jJ,List.zipWith_append (by rw [length_take];omega)];rfl
  have b6:∀ h,R.set k (ln l[k] h)=List.zipWith ln (l.take (k+1)) (hs++[h])++List.replicate (l.length - (k+1)) Z:=fun h=>by
   have hz:(List.zipWith ln (l.take k) hs).length=k:=by rw [length_zipWith,length_take];omega
   rw [hR,MW,show l.length - k=(l.length - (k+1))+1 by omega,List.replicate_succ,List.set_append_right _ _ ae,hz,Nat.sub_self,set_cons_zero];simp
  have O5:∀ h,Hd l[k].kids.length h->∀ (i:Nat) x y,l[i]?=some x->(hs++[h])[i]?=some y->Hd x.kids.length y:=fun h hh i x y h1 h2=>by
   by_cases hik:i < hs.length
   ·rw [List.getElem?_append_left hik] at h2;exact MK i x y h1 h2
   ·have h3:=(List.getElem?_eq_some_iff.1 h2).1;rw [length_append,List.length_singleton] at h3
    have:i=k:=by omega
    subst this;rw [getElem?_append_right ae,Fx,Nat.sub_self] at h2;rw [hx] at h1
    cases h1;cases h2;exact hh
  clear hR;have T9:=MW mh;unfold ln mh at hc;generalize ZD:l[k]=x at *;refine ab ?_;refine bJ [] (hc) ?_;rintro _ _ ⟨_,⟨a1,c1,rfl⟩,rfl,rfl⟩;refine cj ?_;refine ab ?_;refine jq ?_;refine ab ?_;refine ⟨k+1,⟨_,_,Wk.aw al,_,Z,hs++[_],rfl,?_,aq,by simp [Fx],O5 _ ⟨a1,c1,rfl⟩,b6 _⟩,by show l.length - (k+1) < l.length - k;omega⟩;rw [T9];rfl
 ·have dc:decide ((k:Int) < ((l.map ax).length:Int))=false:=by rw [hm];simpa using aq
  have kZ:k=l.length:=by omega
  subst kZ;rw [take_length,Nat.sub_self,List.replicate_zero,append_nil] at hR;subst hR;rw [take_length];refine ab ?_;refine aU ?_;refine ab ?_
  (repeat (first | refine GW.ret ?_ | refine cr ?_ | refine cn ?_ | refine aD ?_ | refine bQ ?_))
  refine rQ 0 rfl (by first | exact .inr rfl | exact .inl rfl) rfl (fun x hx=>?_) ⟨_,hs,⟨_,_,by rw [hm]⟩,Fx,MK,rfl,rfl⟩
  rcases List.mem_cons.1 hx with rfl | hx
  ·rfl
  ·obtain ⟨i,hi⟩:=getElem?_of_mem hx;rw [List.getElem?_zipWith] at hi;split at hi
   ·cases hi;rfl
   ·cases hi
def gx (p:Src) (hg ha hf hn:Value) (fs ns:List Value):List Ob :=
 .vech 9 1 (bV p.globals) hg::.vech 88 2 (p.arrays.map aB) ha::.vech 60 3 (List.zipWith pP p.fns fs) hf::(List.zipWith qS p.fns fs++.vech 91 5 (List.zipWith ln p.nodes ns) hn::List.zipWith mh p.nodes ns)
structure xh (p:Src) (hg ha hf hn:Value) (fs ns:List Value):Prop where
 g:Hd p.globals.length hg
 a:Hd p.arrays.length ha
 f:Hd p.fns.length hf
 n:Hd p.nodes.length hn
 fl:fs.length=p.fns.length
 nl:ns.length=p.nodes.length
 fh:∀ (i:Nat) x y,p.fns[i]?=some x->fs[i]?=some y->Hd x.params.length y
 nh:∀ (i:Nat) x y,p.nodes[i]?=some x->ns[i]?=some y->Hd x.kids.length y
theorem A8 {α:Type} {f:α->Value->Ob} (hf:∀ a h,(f a h).mz=true) {l:List α} {hs:List Value}:∀ x∈List.zipWith f l hs,x.mz=true:=fun x hx=>by
 obtain ⟨i,hi⟩:=getElem?_of_mem hx;rw [List.getElem?_zipWith] at hi;split at hi
 ·cases hi;exact hf _ _
 ·cases hi
theorem wK (p:Src) (hg ha hf hn:Value) (fs ns:List Value):∀ x∈gx p hg ha hf hn fs ns,x.mz=true:=fun x hx=>by
 unfold gx at hx
 rcases List.mem_cons.1 hx with rfl | hx
 ·rfl
 rcases List.mem_cons.1 hx with rfl | hx
 ·rfl
 rcases List.mem_cons.1 hx with rfl | hx
 ·rfl
 rcases List.mem_append.1 hx with hx | hx
 ·exact A8 (fun _ _=>rfl) x hx
 rcases List.mem_cons.1 hx with rfl | hx
 ·rfl
 ·exact A8 (fun _ _=>rfl) x hx
theorem G9 {α:Type} {f:α->Value->Ob} (hf:∀ a h,(f a h).mz=true) {l:List α} {hs:List Value} (r:Nat->Nat):(List.zipWith f l hs).map (Ob.dp r)=List.zipWith f l hs:=by
 refine (List.map_congr_left fun x hx=>?_).trans (List.map_id _);have:=A8 hf x hx
 cases x <;> first | rfl | cases this
theorem B7 (x:Src) (hg:x.globals.length<=1048576) (ha:x.arrays.length<=1048576) (hf:x.fns.length<=1048576) (pz:∀ f∈x.fns,f.params.length<=1048576) (hn:x.nodes.length<=1048576) (oa:∀ n∈x.nodes,n.kids.length<=1048576) :
  GC Tryz.prog 12 [.agg (ar x)] [] fun g Δ=>∃ hg ha hf hn fs ns,xh x hg ha hf hn fs ns/\g=.agg [.v hg,.v ha,.v hf,.v hn]/\Δ=gx x hg ha hf hn fs ns:=by
 have h0:=zQ x.globals hg;have h1:=K8 x.arrays ha;have h2:=SW x.fns hf pz;have h3:=N0 x.nodes hn oa;refine ai Tryz.func12 Tryz.ntmps12 ?_;refine bJ [] (h0) ?_;rintro _ _ ⟨_,⟨a0,c0,rfl⟩,rfl,rfl⟩;refine cj ?_;refine ab ?_;refine bJ [] (h1) ?_;rintro _ _ ⟨_,⟨a1,c1,rfl⟩,rfl,rfl⟩;refine cj ?_;refine ab ?_;refine bJ [] (h2) ?_;rintro _ _ ⟨_,fs,⟨a2,c2,rfl⟩,e1,e2,rfl,rfl⟩;rw [List.map_cons,G9 (fun _ _=>rfl)];refine cj ?_;refine ab ?_;refine bJ [] (h3) ?_;rintro _ _ ⟨_,ns,⟨a3,c3,rfl⟩,e3,e4,rfl,rfl⟩;rw [List.map_cons,G9 (fun _ _=>rfl)];refine cj ?_;refine ab ?_
 (repeat (first | refine GW.ret ?_ | refine cr ?_ | refine cn ?_ | refine aD ?_ | refine bQ ?_))
 refine JZ 3 rfl (by first | exact .inr rfl | exact .inl rfl) rfl rfl rfl rfl ?_ ?_
 ·exact wK x _ _ _ _ fs ns
 ·exact ⟨_,_,_,_,fs,ns,⟨⟨_,_,rfl⟩,⟨_,_,rfl⟩,⟨_,_,rfl⟩,⟨_,_,rfl⟩,e1,e3,e2,e4⟩,rfl,rfl⟩
end Go.Xg
namespace Go.Xg
open Go.RowKit Go.Xw Go.Proofs
open Go.Xp (Nd T Ar aK ay)
open Go.Sp (Src)
open Go.Im
attribute [local irreducible] GW GL GO YG GC GA aS aW
section
variable {B:Bs} {K:Fz} {β:Bt} {w:World} {l:List Value} {fr:List GV} {A C:List Ob}
theorem gC {x y:Operand} {E k:Nat} {rows:List (List GV)} {h z:Value} (hI:Inv B K β (A++(.vech E k rows h::C)) w) (hF:FR K β fr l) (hx:aP fr x=.v h) (hy:aP fr y=.v z) :
  ∃ K1,iN K1 w/\eY K1 (fun _=>.no) w/\aV K1 (fun _=>.no) ([x,y].map (ev l)) [.sl k rows,.v z]:=by
 obtain ⟨K1,hk,h1,h2,h3⟩:=hI.view (i:=A.length) (E:=E) (k:=k) (rows:=rows) (x:=h) (by rw [getElem?_append_right (Nat.le_refl _),Nat.sub_self];rfl);refine ⟨K1,h1,h2,?_⟩;show aV K1 _ [ev l x,ev l y] _;rw [hF.gE hx,hF.gE hy];exact .cons h3 (.cons (.v _) .nil)
end
theorem vG (l:List ah):(bV l).length=l.length:=by simp [bV]
theorem Ow (xs:List Int) (s:Int) (hl:xs.length<=1099511627776):GF Tryz.prog 110 [ints xs,.v (ii s)] [] (.v (ii (cH (fun x=>s==x) xs))) []:=by
 have dO:(xs.map fun i=>[GV.v (ii i)]).length=xs.length:=by simp
 refine ai Tryz.func110 Tryz.ntmps110 ?_;refine GW.range (xs.map fun i=>[GV.v (ii i)]).length (fun k fr Γ=>fr=[ints xs,.v (ii s),.aaF,.aaF,.aaF,.aaF,ints xs,.v (ii ((xs.map fun i=>[GV.v (ii i)]).length:Int)),.v (ii (k:Nat)),.aaF,.aaF,.aaF,.aaF,.aaF,.aaF,.aaF,.aaF,.aaF,.aaF]/\Γ=[]/\((xs.take k).all fun x=>!(s==x))=true) ?_ ae ?_ ?_ ?_
 ·exact ⟨_,_,Wk.aw al,rfl,rfl,rfl⟩
 ·rintro k _ _ ⟨rfl,rfl,_⟩;exact ⟨rfl,rfl,rfl⟩
 ·rintro k _ _ aq ⟨rfl,rfl,aO⟩;rw [dO] at aq;obtain ⟨x,cP⟩:∃ x,xs[k]?=some x:=⟨xs[k],by simp [aq]⟩;have hr:=oY cP;have bq:=mH (f:=fun y:Int=>s==y) cP
  have hit:=fun h0=>nr (f:=fun y:Int=>s==y) cP h0 aO
  cases hb:(s==x) with
  | true =>
   rw [hit hb];exact av
  | false =>
   refine ab ?_;exact ⟨rfl,rfl,_,_,Wk.aw al,rfl,rfl,by rw [bq,aO,hb];rfl⟩
 ·rintro _ _ ⟨rfl,rfl,aO⟩;rw [dO,take_length] at aO;rw [kD aO];exact av
theorem qJ (xs:List Int) (s:Int) (hl:xs.length<=1099511627776):GF Tryz.prog 56 [ints xs,.v (ii s)] [] (.v (.bool (xs.contains s))) []:=by
 have hi:=Ow xs s hl
 have he:xs.contains s=xs.any (fun x=>s==x):=by rw [List.contains_eq_any_beq]
 rw [he,<-Dn];generalize cH (fun x=>s==x) xs=i at *;refine ai Tryz.func56 Tryz.ntmps56 ?_;refine U [] (hi) ?_;exact ao
end Go.Xg
set_option maxHeartbeats 4000000
namespace Go.Xg
open Go.RowKit Go.Xw Go.Proofs
open Go.Xp (Nd T Ar aK ay)
open Go.Sp (Src)
open Go.Im
attribute [local irreducible] GW GL GO YG GC GA aS aW
theorem Gg (l:List ah):lN (l.map fun s=>[GV.v (sv s)])=true:=by
 induction l with
 | nil=>rfl
 | cons s l ih=>rw [List.map_cons,lN,ih];rfl
theorem GW.L4 {P:Program} {m:Nat} {c:Code} {Q:dP} {fr bU:List GV} {Γ aH:List Ob} (h1:sq fr bU) (h2:Γ=aH) (h:GW P m c Q bU aH):GW P m c Q fr Γ:=by
 subst h2;exact GW.wk (Wk.aw h1) h
end Go.Xg
namespace Go.Xg
open Go.RowKit Go.Xw Go.Proofs
open Go.Xp (Nd T Ar aK ay)
open Go.Sp (Src)
open Go.Im
attribute [local irreducible] GW GL GO YG GC GA aS aW
def tZ (n:Nd):Bool:=(n.kind==4&&n.s==[115,105,122,101])&&((n.kids.length:Int)==1)
theorem BK (p:Src) (a:Nat) (n:Nd) (hn:p.nodes[a]?=some n):GF Tryz.prog 172 [.agg (ar p),.v (ii (a:Nat))] [] (.v (.bool (tZ n))) []:=by
 have hr:=jC hn
 have eH:(n.kids.map fun i=>[GV.v (ii i)]).length=n.kids.length:=by simp
 unfold tZ;rw [<-eH];unfold ax ints at hr;generalize (n.kids.map fun i=>[GV.v (ii i)])=kk at *
 cases h1:(n.kind==4)
 all_goals cases h2:(n.s==[115,105,122,101])
 all_goals
  refine ai Tryz.func172 Tryz.ntmps172 ?_;exact ao
theorem UL (p:Src) (s:ah) (hn:p.fns.length<=1099511627776):GF Tryz.prog 245 [.agg (ar p),.v (sv s)] [] (.v (ii (mA p s))) []:=by
 have hF:=Me p s hn;unfold mA ov pG iu
 cases h1:(s==[103,101,116]) with
 | true =>
  rw [if_pos (by simpa using h1)];refine ai Tryz.func245 Tryz.ntmps245 ?_;exact ao
 | false =>
  rw [if_neg (by simpa using h1)]
  cases h2:(s==[112,117,116]) with
  | true =>
   rw [if_pos (.inl (by simpa using h2))];refine ai Tryz.func245 Tryz.ntmps245 ?_;exact ao
  | false =>
   cases h3:(s==[115,105,122,101]) with
   | true =>
    rw [if_pos (.inr (by simpa using h3))];refine ai Tryz.func245 Tryz.ntmps245 ?_;exact ao
   | false =>
    rw [if_neg (by simpa using And.intro (show ¬ s=[112,117,116] by simpa using h2) (show ¬ s=[115,105,122,101] by simpa using h3))];unfold cH at hF
    cases hx:p.fns.findIdx? (fun f:Go.Sp.Fn=>f.name==s) with
    | none =>
     rw [hx] at hF
     have hd:decide ((0:Int) <= -1)=false:=by decide
     refine ai Tryz.func245 Tryz.ntmps245 ?_;refine U [] (hF) ?_;exact ao
    | some i =>
     rw [hx] at hF;have hi:i < p.fns.length:=(List.findIdx?_eq_some_iff_getElem.1 hx).1;obtain ⟨f,hf⟩:∃ f,p.fns[i]?=some f:=⟨p.fns[i],by simp [hi]⟩
     have hr:(p.fns.map au)[i]?=some (au f):=by rw [getElem?_map,hf];rfl
     have cB:(f.params.map fun s=>[GV.v (sv s)]).length=f.params.length:=by simp
     have hd:decide ((0:Int)<=((i:Nat):Int))=true:=by simp
     unfold au at hr;simp only at hF |-;unfold lg;rw [hf];simp only;rw [<-cB];refine ai Tryz.func245 Tryz.ntmps245 ?_;refine U [] (hF) ?_;exact ao
end Go.Xg
namespace Go.Xg
open Go.RowKit Go.Xw Go.Proofs
open Go.Xp (Nd T Ar aK ay dQ bO)
open Go.Sp (Src)
open Go.Im
attribute [local irreducible] GW GL GO YG GC GA aS aW
theorem IP {p:Src} {a:Nat} {n:Nd} {l:List T} (bY:eh p.nodes a (.mk n l)):dI (.mk n l)=tZ n:=by
 rw [eh] at bY;unfold dI tZ iu
 congr 1
 rw [bY.2.1,dQ]
 exact Bool.eq_iff_iff.2 (by
  show ((l.length==1)=true)↔_
  simp only [beq_iff_eq];omega)
theorem Ho (p:Src) (a:Nat) (n:Nd) (l:List T) (ls:List ah) (bY:eh p.nodes a (.mk n l)) (fG:p.fns.length<=1099511627776) (iT:p.arrays.length<=1099511627776) (lX:ls.length<=1099511627776) :
  GF Tryz.prog 209 [.agg (ar p),.v (ii (a:Nat)),strs ls] [] (.v (ii (eN p (.mk n l) ls))) []:=by
 have hs:=IP bY;rw [eh] at bY;obtain ⟨hn,hk,qb⟩:=bY;have hS:=BK p a n hn;have hr:=jC hn
 have eH:(n.kids.map fun i=>[GV.v (ii i)]).length=l.length:=by rw [length_map,hk,dQ]
 unfold eN;rw [hs]
 cases hz:tZ n with
 | true =>
  rw [hz] at hS;rw [if_pos rfl]
  have eI:l.length=1:=by
   unfold tZ at hz;simp only [Bool.and_eq_true,beq_iff_eq] at hz;rw [hk,dQ] at hz;omega
  obtain ⟨u,rfl⟩:∃ u,l=[u]:=by
   match l,eI with
   | [u],_=>exact ⟨u,rfl⟩
  have hm:p.nodes[a+1]?=some u.n:=by
   rw [dm] at qb;have:=qb.1
   cases u;rw [eh] at this;exact this.1
  have zB:n.kids[0]?=some (((a+1:Nat)):Int):=by rw [hk];rfl
  have rj:=oY zB;have fS:=jC hm;show GF _ _ _ _ (.v (ii (if fQ p u.n ls=true then 24 else 0))) _;generalize u.n=m at *;have hA:=De p m.s iT;have hL:=jW ls m.s lX;have hb:fQ p m ls=((m.kind != 2 || decide (cH (fun x:Ar=>x.name==m.s) p.arrays < 0)) || ls.contains m.s):=rfl;rw [hb];generalize cH (fun x:Ar=>x.name==m.s) p.arrays=z at *;unfold ax at hr fS
  cases h1:(m.kind != 2) with
  | true =>
   refine ai Tryz.func209 Tryz.ntmps209 ?_;refine U [] (hS) ?_;refine GW.draw (.q 0 (.q 1 (.q 2 (.q 3 (.q 4 (.q 5 (.q 6 (.q 7 (.a 8 (.a 9 .nil)))))))))) (by kernel_rfl) (by kernel_rfl) ?_;refine aj ?_;exact av
  | false =>
   cases h2:decide (z < 0) with
   | true =>
    refine ai Tryz.func209 Tryz.ntmps209 ?_;refine U [] (hS) ?_;refine GW.draw (.q 0 (.q 1 (.q 2 (.q 3 (.q 4 (.q 5 (.q 6 (.q 7 (.a 8 (.a 9 .nil)))))))))) (by kernel_rfl) (by kernel_rfl) ?_;refine aj ?_;refine ab ?_;refine U [] (hA) ?_;exact ao
   | false =>
    generalize ls.contains m.s=b at *;cases b
    all_goals
     refine ai Tryz.func209 Tryz.ntmps209 ?_;refine U [] (hS) ?_;refine GW.draw (.q 0 (.q 1 (.q 2 (.q 3 (.q 4 (.q 5 (.q 6 (.q 7 (.a 8 (.a 9 .nil)))))))))) (by kernel_rfl) (by kernel_rfl) ?_;refine aj ?_;refine ab ?_;refine U [] (hA) ?_;refine U [] (hL) ?_;exact ao
 | false =>
  rw [hz] at hS;rw [if_neg (by decide)];have hM:=UL p n.s fG;show GF _ _ _ _ (.v (ii (if mA p n.s = -1 then 22 else if mA p n.s=(l.length:Int) then 0 else 23))) _;generalize mA p n.s=z at *;rw [<-eH];unfold ax at hr;unfold ints at hr;generalize (n.kids.map fun i=>[GV.v (ii i)])=kk at *
  cases h1:(z == -1) with
  | true =>
   rw [if_pos (by simpa using h1)];refine ai Tryz.func209 Tryz.ntmps209 ?_;refine U [] (hS) ?_;refine U [] (hM) ?_;exact ao
  | false =>
   rw [if_neg (by simpa using h1)]
   cases h2:(z==(kk.length:Int)) with
   | true =>
    rw [if_pos (by simpa using h2)];refine ai Tryz.func209 Tryz.ntmps209 ?_;refine U [] (hS) ?_;refine U [] (hM) ?_;exact ao
   | false =>
    rw [if_neg (by simpa using h2)];refine ai Tryz.func209 Tryz.ntmps209 ?_;refine U [] (hS) ?_;refine U [] (hM) ?_;exact ao
theorem HF (p:Src) (a:Nat) (n:Nd) (l:List T) (ls:List ah) (bY:eh p.nodes a (.mk n l)) (fG:p.fns.length<=1099511627776) (iT:p.arrays.length<=1099511627776) (ju:p.globals.length<=1099511627776) (lX:ls.length<=1099511627776) :
  GF Tryz.prog 173 [.agg (ar p),.v (ii (a:Nat)),strs ls] [] (.v (ii (bP p (.mk n l) ls))) []:=by
 have hC:=Ho p a n l ls bY fG iT lX
 have hn:p.nodes[a]?=some n:=by rw [eh] at bY;exact bY.1
 clear bY;have hr:=jC hn;have hL:=jW ls n.s lX;have hG:=jW p.globals n.s ju;have hA:=De p n.s iT
 have pB:(ls.map fun s=>[GV.v (sv s)]).length=ls.length:=by simp
 have he:bP p (.mk n l) ls=(if n.kind=13 then (if ls.contains n.s=true then 21 else if ls.length>=40 then 26 else 0)
  else if n.kind=2\/n.kind=7 then (if ls.contains n.s=false/\p.globals.contains n.s=false then 22 else 0)
  else if n.kind=3\/n.kind=8 then (if ls.contains n.s=true\/cH (fun x:Ar=>x.name==n.s) p.arrays < 0 then 24 else 0)
  else if n.kind=4 then eN p (.mk n l) ls else 0):=rfl
 rw [he];generalize eN p (.mk n l) ls=cf at *;obtain ⟨kd,at_,nn,s,ks⟩:=n;simp only at *;unfold ax at hr;simp only at hr;generalize cH (fun x:Ar=>x.name==s) p.arrays=z at *;generalize ls.contains s=b at *;generalize p.globals.contains s=g at *;rw [<-pB]
 by_cases eA:kd=13
 ·subst eA
  have Jc:((13:Int)==13)=true:=by decide
  rw [if_pos rfl]
  cases b with
  | true =>
   refine ai Tryz.func173 Tryz.ntmps173 ?_;refine U [] (hL) ?_;exact ao
  | false =>
   cases h4:decide ((40:Int)<=(((ls.map fun s=>[GV.v (sv s)]).length:Nat):Int)) with
   | true =>
    rw [if_neg (by decide),if_pos (by simp at h4;omega)];refine ai Tryz.func173 Tryz.ntmps173 ?_;refine U [] (hL) ?_;exact ao
   | false =>
    rw [if_neg (by decide),if_neg (by simp at h4;omega)];refine ai Tryz.func173 Tryz.ntmps173 ?_;refine U [] (hL) ?_;exact ao
 rw [if_neg eA]
 by_cases h2:kd=2
 ·subst h2
  have Jc:((2:Int)==13)=false:=by decide
  have q2:((2:Int)==2)=true:=by decide
  rw [if_pos (by decide)]
  cases b with
  | true =>
   refine ai Tryz.func173 Tryz.ntmps173 ?_;refine U [] (hL) ?_;exact ao
  | false =>
   cases g
   all_goals
    refine ai Tryz.func173 Tryz.ntmps173 ?_;refine U [] (hL) ?_;refine U [] (hG) ?_;exact ao
 by_cases h7:kd=7
 ·subst h7
  have Jc:((7:Int)==13)=false:=by decide
  have q2:((7:Int)==2)=false:=by decide
  have q7:((7:Int)==7)=true:=by decide
  rw [if_pos (by decide)]
  cases b with
  | true =>
   refine ai Tryz.func173 Tryz.ntmps173 ?_;refine U [] (hL) ?_;exact ao
  | false =>
   cases g
   all_goals
    refine ai Tryz.func173 Tryz.ntmps173 ?_;refine U [] (hL) ?_;refine U [] (hG) ?_;exact ao
 rw [if_neg (by rintro (h | h);(· exact h2 h);exact h7 h)]
 by_cases h3:kd=3
 ·subst h3
  have Jc:((3:Int)==13)=false:=by decide
  have q2:((3:Int)==2)=false:=by decide
  have q7:((3:Int)==7)=false:=by decide
  have q3:((3:Int)==3)=true:=by decide
  rw [if_pos (by decide)]
  cases b with
  | true =>
   refine ai Tryz.func173 Tryz.ntmps173 ?_;refine U [] (hL) ?_;exact ao
  | false =>
   cases hz:decide (z < 0) with
   | true =>
    rw [if_pos (.inr (by simpa using hz))];refine ai Tryz.func173 Tryz.ntmps173 ?_;refine U [] (hL) ?_;refine U [] (hA) ?_;exact ao
   | false =>
    rw [if_neg (by rintro (h | h);(· cases h);(· simp at hz;omega))];refine ai Tryz.func173 Tryz.ntmps173 ?_;refine U [] (hL) ?_;refine U [] (hA) ?_;exact ao
 by_cases h8:kd=8
 ·subst h8
  have Jc:((8:Int)==13)=false:=by decide
  have q2:((8:Int)==2)=false:=by decide
  have q7:((8:Int)==7)=false:=by decide
  have q3:((8:Int)==3)=false:=by decide
  have q8:((8:Int)==8)=true:=by decide
  rw [if_pos (by decide)]
  cases b with
  | true =>
   refine ai Tryz.func173 Tryz.ntmps173 ?_;refine U [] (hL) ?_;exact ao
  | false =>
   cases hz:decide (z < 0) with
   | true =>
    rw [if_pos (.inr (by simpa using hz))];refine ai Tryz.func173 Tryz.ntmps173 ?_;refine U [] (hL) ?_;refine U [] (hA) ?_;exact ao
   | false =>
    rw [if_neg (by rintro (h | h);(· cases h);(· simp at hz;omega))];refine ai Tryz.func173 Tryz.ntmps173 ?_;refine U [] (hL) ?_;refine U [] (hA) ?_;exact ao
 rw [if_neg (by rintro (h | h);(· exact h3 h);exact h8 h)]
 by_cases h4:kd=4
 ·subst h4
  have Jc:((4:Int)==13)=false:=by decide
  have q2:((4:Int)==2)=false:=by decide
  have q7:((4:Int)==7)=false:=by decide
  have q3:((4:Int)==3)=false:=by decide
  have q8:((4:Int)==8)=false:=by decide
  have q4:((4:Int)==4)=true:=by decide
  rw [if_pos rfl];refine ai Tryz.func173 Tryz.ntmps173 ?_;refine U [] (hL) ?_;refine U [] (hC) ?_;exact ao
 rw [if_neg h4]
 have Jc:(kd==13)=false:=by simpa using eA
 have q2:(kd==2)=false:=by simpa using h2
 have q7:(kd==7)=false:=by simpa using h7
 have q3:(kd==3)=false:=by simpa using h3
 have q8:(kd==8)=false:=by simpa using h8
 have q4:(kd==4)=false:=by simpa using h4
 refine ai Tryz.func173 Tryz.ntmps173 ?_;refine U [] (hL) ?_;exact ao
end Go.Xg
namespace Go.Xg
open Go.RowKit Go.Xw Go.Proofs
open Go.Xp (Nd T Ar aK ay dQ bO)
open Go.Sp (Src)
open Go.Im
attribute [local irreducible] GW GL GO YG GC GA aS aW
theorem To {K K1:Fz} {β:Bt} {v:Value} {gs:List GV} (hk:ca K K1) (hp:∀ g∈gs,g.pc=true) (h:Rel K β v (.agg gs)):Rel K1 (fun _=>.no) v (.agg gs):=by
 cases h with
 | agg vs cs hl h =>
  exact .agg vs gs hl fun i v g h1 h2=>((h i v g h1 h2).mono hk (cX.refl β)).pc (hp g (mem_of_getElem? h2))
theorem JU (p:Src):∀ g∈ar p,g.pc=true:=fun g hg=>by
 simp only [ar,List.mem_cons,List.not_mem_nil,or_false] at hg
 rcases hg with rfl | rfl | rfl | rfl <;> rfl
theorem nm {B:Bs} {K:Fz} {β:Bt} {w:World} {l:List Value} {fr:List GV} {A C:List Ob} {p:Src} {x y u:Operand} {E k:Nat} {rows:List (List GV)} {h z:Value} (hI:Inv B K β (A++(.vech E k rows h::C)) w) (hF:FR K β fr l) (hx:aP fr x=.agg (ar p)) (hy:aP fr y=.v z) (hu:aP fr u=.v h) :
  ∃ K1,iN K1 w/\eY K1 (fun _=>.no) w/\aV K1 (fun _=>.no) ([x,y,u].map (ev l)) [.agg (ar p),.v z,.sl k rows]:=by
 obtain ⟨K1,hk,h1,h2,h3⟩:=hI.view (i:=A.length) (E:=E) (k:=k) (rows:=rows) (x:=h) (by rw [getElem?_append_right (Nat.le_refl _),Nat.sub_self];rfl);have hr:=hF.ev x;rw [hx] at hr;refine ⟨K1,h1,h2,?_⟩;show aV K1 _ [ev l x,ev l y,ev l u] _;rw [hF.gE hy,hF.gE hu];exact .cons (To hk (JU p) hr) (.cons (.v _) (.cons h3 .nil))
theorem SQ (p:Src) (a:Nat) (n:Nd) (l:List T) (ls:List ah) (c:CS) (E1 E5 E6:TypeId) (ad:Option Addr) (cp:Nat) (bY:eh p.nodes a (.mk n l)) (fG:p.fns.length<=1099511627776) (iT:p.arrays.length<=1099511627776) (ju:p.globals.length<=1099511627776) (lX:ls.length<=1099511627776) :
  GF Tryz.prog 171 [.v (ii (a:Nat)),.v (.slice ad ls.length cp),.loc 0 0,.loc 1 0,.box (ar p) 0,.loc 2 0] [.box E1 [.v (ii c.code)],.box E5 [.v (ii c.skip)],.box E6 [.v (ii c.place)],.vech 9 1 (bV ls) (.slice ad ls.length cp)] (.tup [])
   [.box E1 [.v (ii (b8 p c a (.mk n l) ls).code)],.box E5 [.v (ii (b8 p c a (.mk n l) ls).skip)],.box E6 [.v (ii (b8 p c a (.mk n l) ls).place)],.vech 9 1 (bV ls) (.slice ad ls.length cp)]:=by
 have hs:=IP bY;have hN:=HF p a n l ls bY fG iT ju lX;rw [eh] at bY;obtain ⟨hn,hk,qb⟩:=bY;have hS:=BK p a n hn;have hr:=jC hn;obtain ⟨code,place,skip⟩:=c;unfold b8;rw [hs];simp only;generalize bP p (.mk n l) ls=z at *
 cases h1:(code != 0) with
 | true =>
  rw [if_pos (.inl (by simpa using h1))];refine ai Tryz.func171 Tryz.ntmps171 ?_;exact fP
 | false =>
  cases h2:(((a:Nat):Int)==skip) with
  | true =>
   rw [if_pos (.inr (by simpa using h2))];refine ai Tryz.func171 Tryz.ntmps171 ?_;exact fP
  | false =>
   rw [if_neg (by rintro (h | h);(· simp at h1;exact h h1);(· simp at h2;exact h2 h))];simp only
   cases hz:tZ n with
   | false =>
    rw [hz] at hS;rw [if_neg (show ¬ (false=true) by decide)];unfold ax at hr
    cases h3:(z != 0) with
    | true =>
     rw [if_pos (by simpa using h3)];refine ai Tryz.func171 Tryz.ntmps171 ?_;refine U [] (hS) ?_;refine GL.borrow hN (fun B K β w l hI hF=>nm (A:=[_,_,_]) (C:=[]) hI hF rfl rfl rfl) ?_;refine bT ?_;exact lQ
    | false =>
     rw [if_neg (by simpa using h3)];refine ai Tryz.func171 Tryz.ntmps171 ?_;refine U [] (hS) ?_;refine GL.borrow hN (fun B K β w l hI hF=>nm (A:=[_,_,_]) (C:=[]) hI hF rfl rfl rfl) ?_;refine bT ?_;exact lQ
   | true =>
    rw [hz] at hS;rw [if_pos rfl]
    have eI:l.length=1:=by
     unfold tZ at hz;simp only [Bool.and_eq_true,beq_iff_eq] at hz;rw [hk,dQ] at hz;omega
    obtain ⟨u,rfl⟩:∃ u,l=[u]:=by
     match l,eI with
     | [u],_=>exact ⟨u,rfl⟩
    have hm:p.nodes[a+1]?=some u.n:=by
     rw [dm] at qb;have:=qb.1
     cases u;rw [eh] at this;exact this.1
    have zB:n.kids[0]?=some (((a+1:Nat)):Int):=by rw [hk];rfl
    have rj:=oY zB;have fS:=jC hm;rw [show mT (.mk n [u])=u.n from rfl];generalize u.n=m at *;unfold ax at hr fS
    cases h4:(m.kind != 2) with
    | true =>
     rw [if_pos (show m.kind≠2 by simpa using h4)]
     cases h3:(z != 0) with
     | true =>
      rw [if_pos (by simpa using h3)];refine ai Tryz.func171 Tryz.ntmps171 ?_;refine U [] (hS) ?_;refine GL.borrow hN (fun B K β w l hI hF=>nm (A:=[_,_,_]) (C:=[]) hI hF rfl rfl rfl) ?_;refine bT ?_;exact lQ
     | false =>
      rw [if_neg (by simpa using h3)];refine ai Tryz.func171 Tryz.ntmps171 ?_;refine U [] (hS) ?_;refine GL.borrow hN (fun B K β w l hI hF=>nm (A:=[_,_,_]) (C:=[]) hI hF rfl rfl rfl) ?_;refine bT ?_;exact lQ
    | false =>
     rw [if_neg (show ¬ (m.kind≠2) by simpa using h4)]
     cases h3:(z != 0) with
     | true =>
      rw [if_pos (by simpa using h3)];refine ai Tryz.func171 Tryz.ntmps171 ?_;refine U [] (hS) ?_;refine GL.borrow hN (fun B K β w l hI hF=>nm (A:=[_,_,_]) (C:=[]) hI hF rfl rfl rfl) ?_;refine bT ?_;exact lQ
     | false =>
      rw [if_neg (by simpa using h3)];refine ai Tryz.func171 Tryz.ntmps171 ?_;refine U [] (hS) ?_;refine GL.borrow hN (fun B K β w l hI hF=>nm (A:=[_,_,_]) (C:=[]) hI hF rfl rfl rfl) ?_;refine bT ?_;exact lQ
end Go.Xg
namespace Go.Xg
open Go.RowKit Go.Xw Go.Proofs
open Go.Xp (Nd T Ar aK ay dQ)
open Go.Sp (Src)
open Go.Im
attribute [local irreducible] GW GL GO YG GC GA aS aW
def Jr (p:Src):GV:=.fn (.func 171) [] [.loc 0 0,.loc 1 0,.box (ar p) 0,.loc 2 0]
def Rm (p:Src):GV:=.fn (.func 127) [] [.loc 3 0,.loc 4 0,.box (ar p) 0,.loc 5 0]
def DU (p:Src) (E1 E5 E6 E2 E3 E4:TypeId) (s:CS) (ls:List ah) (ad:Option Addr) (cp:Nat):List Ob :=
 [.box E1 [.v (ii s.code)],.box E5 [.v (ii s.skip)],.box E6 [.v (ii s.place)],.box E2 [Jr p],.box E3 [.v (.slice ad ls.length cp)],.box E4 [Rm p],.vech 9 1 (bV ls) (.slice ad ls.length cp)]
theorem Qi (p:Src) (E1 E5 E6 E2 E3 E4:TypeId) (hp:p.nodes.length<=1048576) (eH:∀ n∈p.nodes,n.kids.length<=1099511627776) (fG:p.fns.length<=1099511627776) (iT:p.arrays.length<=1099511627776) (ju:p.globals.length<=1099511627776):∀ (N:Nat) (t:T),aK t<=N->∀ (a:Nat) (s:CS) (ls:List ah) (ad:Option Addr) (cp:Nat),eh p.nodes a t->ls.length+aK t<=8388608 ->
  GC Tryz.prog 127 [.v (ii (a:Nat)),.loc 3 0,.loc 4 0,.box (ar p) 0,.loc 5 0] (DU p E1 E5 E6 E2 E3 E4 s ls ad cp) fun g Δ=>g=.tup []/\∃ pW pY,Δ=DU p E1 E5 E6 E2 E3 E4 (ij (b8 p) t a s ls).1 (ij (b8 p) t a s ls).2 pW pY:=by
 intro N
 induction N with
 | zero=>intro t h;have:=jU t;omega
 | succ N ih =>
 intro t hN a s ls ad cp bY lX
 cases t with
 | mk n l =>
 rw [Go.Xp.aK] at hN lX;have Un:=bY;rw [eh] at bY;obtain ⟨hn,hk,qb⟩:=bY;rw [ij];have hr:=jC hn;have n8:=eH n (mem_of_getElem? hn);have ht:=SQ p a n l ls s E1 E5 E6 ad cp Un fG iT ju ae;generalize ff:(b8 p) s a (.mk n l) ls=s1 at *
 have BA:n.kids.length=l.length:=by rw [hk,dQ]
 unfold ax at hr;unfold DU Jr Rm;refine ai Tryz.func127 Tryz.ntmps127 ?_;refine GL.vS [0,1,2,6] ht rfl rfl rfl (by repeat (first | exact trivial | refine ⟨rfl,?_⟩)) ?_;rintro _ _ ⟨rfl,rfl⟩;refine cj ?_;refine ab ?_;refine GW.range (n.kids.map fun i=>[GV.v (ii i)]).length (fun k fr Γ=>∃ pW pY,fr=[.v (ii (a:Nat)),.loc 3 0,.loc 4 0,.box (ar p) 0,.loc 5 0,.aaF,.aaF,.aaF,.aaF,.aaF,.aaF,.aaF,.aaF,.aaF,.aaF,.aaF,.aaF,ints n.kids,.v (ii ((n.kids.map fun i=>[GV.v (ii i)]).length:Int)),.v (ii (k:Nat)),.aaF,.aaF,.aaF,.aaF,.aaF,.aaF,.aaF,.aaF,.aaF,.aaF,.aaF,.aaF,.aaF,.aaF,.aaF,.aaF,.aaF,.aaF,.aaF,.aaF,.aaF,.aaF,.aaF]/\Γ=DU p E1 E5 E6 E2 E3 E4 (dN (b8 p) (l.take k) (a+1) s1 ls).1 (dN (b8 p) (l.take k) (a+1) s1 ls).2 pW pY) ?_ (by rw [length_map];omega) ?_ ?_ ?_
 ·exact ⟨_,_,Wk.aw al,ad,cp,rfl,rfl⟩
 ·rintro k _ _ ⟨ad,cp,rfl,rfl⟩;exact ⟨rfl,rfl,rfl⟩
 ·rintro k _ _ aq ⟨ad,cp,rfl,rfl⟩;rw [length_map,BA] at aq;obtain ⟨u,hu⟩:∃ u,l[k]?=some u:=⟨l[k],by simp [aq]⟩;have la:=x5 (n:=a+1) hu;rw [<-hk] at la;have w5:=oY la;have cI:=tC hu;have Uo:eh p.nodes (a+1+ay (l.take k)) u:=dm.ix l (a+1) k u qb hu
  have hlen:(dN (b8 p) (l.take k) (a+1) s1 ls).2.length<=ls.length+ay (l.take k):=by
   rw [ql,length_append];have:=uq (l.take k);omega
  rw [ER _ hu];generalize (dN (b8 p) (l.take k) (a+1) s1 ls).1=s2 at *;generalize (dN (b8 p) (l.take k) (a+1) s1 ls).2=ls2 at *;have hv:=ih u ae (a+1+ay (l.take k)) s2 ls2 ad cp Uo ae;unfold DU Jr Rm at hv |-;refine ab ?_;refine GL.vS [0,1,2,3,4,5,6] hv rfl rfl rfl (by repeat (first | exact trivial | refine ⟨rfl,?_⟩)) ?_;rintro _ _ ⟨rfl,pW,pY,rfl⟩;refine cj ?_;refine ab ?_;exact ⟨rfl,rfl,_,_,Wk.aw al,pW,pY,rfl,rfl⟩
 ·rintro _ _ ⟨ad,cp,rfl,rfl⟩;rw [length_map,BA,take_length]
  have hlen:(dN (b8 p) l (a+1) s1 ls).2.length<=ls.length+ay l:=by
   rw [ql,length_append];have:=uq l;omega
  generalize (dN (b8 p) l (a+1) s1 ls).1=s2 at *;generalize (dN (b8 p) l (a+1) s1 ls).2=ls2 at *;have QR:(bV ls2).length=ls2.length:=vG ls2;unfold DU Jr Rm;refine aD ?_
  cases hv:(n.kind==13) with
  | false =>
   rw [if_neg (by simpa using hv)];refine ab ?_;refine cK ?_;exact ⟨rfl,ad,cp,rfl⟩
  | true =>
   rw [if_pos (by simpa using hv)];refine ab ?_;refine GW.draw (.q 0 (.q 1 (.q 2 (.q 3 (.q 4 (.q 5 (.q 6 (.a 7 (.a 8 (.a 9 .nil)))))))))) (by kernel_rfl) (by kernel_rfl) ?_;refine aj ?_;refine eC ?_;refine aj ?_;refine OA rfl rfl (GL.qh 6 (news:=[[.v (sv n.s)]]) rfl rfl rfl (by first | rfl | assumption) rfl rfl (by refine ⟨?_,?_⟩;(· show _+1<=_;omega);(· show (_+1) * _<=_;omega)) ?_);intro sr sy;refine dD ?_;refine aj ?_;refine ab ?_;refine cK ?_;exact ⟨rfl,sr,sy,by simp [bV]⟩
theorem RP (p:Src) (E1 E5 E6:TypeId) (i:Nat) (f:Go.Sp.Fn) (t:T) (s:CS) (hp:p.nodes.length<=1048576) (eH:∀ n∈p.nodes,n.kids.length<=1099511627776) (fG:p.fns.length<=1099511627776) (iT:p.arrays.length<=1099511627776) (ju:p.globals.length<=1099511627776)
  (hf:p.fns[i]?=some f) (xQ:f.params.length<=1048576) (hb:0<=f.body) (bY:eh p.nodes f.body.toNat t) (cI:aK t<=1048576) :
  GF Tryz.prog 88 [.agg (ar p),.v (ii (i:Nat)),Jr p] [.box E1 [.v (ii s.code)],.box E5 [.v (ii s.skip)],.box E6 [.v (ii s.place)]] (.tup []) [.box E1 [.v (ii (ij (b8 p) t f.body.toNat s f.params).1.code)],.box E5 [.v (ii (ij (b8 p) t f.body.toNat s f.params).1.skip)],.box E6 [.v (ii (ij (b8 p) t f.body.toNat s f.params).1.place)]]:=by
 have hr:(p.fns.map au)[i]?=some (au f):=by rw [getElem?_map,hf];rfl
 have cB:(f.params.map fun s=>[GV.v (sv s)]).length=f.params.length:=by simp
 have gM:=Gg f.params;obtain ⟨b,xG⟩:∃ b:Nat,f.body=(b:Int):=⟨f.body.toNat,by omega⟩;rw [xG,Int.toNat_natCast] at bY |-;unfold au at hr;rw [xG] at hr;unfold Jr;refine db Tryz.func88 Tryz.ntmps88 ?_;refine iM ?_;refine GL.wk (Wk.freeze (i:=3) rfl rfl rfl (Nat.le_refl _)) ?_;refine GN (by simp only [nP,mM];rfl) ?_;refine GL.wk (Wk.aw (bU:=[.aaF,.v (ii (i:Nat)),.aaF,.box (ar p) 0,.aaF,.loc 4 0,.aaF,.aaF,.aaF,.aaF,.aaF,.aaF,.aaF,strs f.params,.aaF,.aaF,.aaF,.aaF,.aaF,.aaF,.aaF,.aaF,.aaF,.aaF]) al) ?_;refine GL.wk (Wk.mU 9 1) ?_;refine GL.Eh 5 rfl rfl rfl rfl gM (by refine ⟨?_,?_⟩;(· rw [cB];omega);(· rw [cB];omega)) ?_;intro ad cp;rw [cB];refine bT ?_;simp only [nil_append,length_nil,Nat.zero_add];refine ab ?_;refine GW.L4 (bU:=[.aaF,.v (ii (i:Nat)),.aaF,.box (ar p) 0,.aaF,.loc 4 0,.loc 6 0,.loc 7 0,.aaF,.aaF,.aaF,.aaF,.aaF,.aaF,.aaF,.aaF,.aaF,.aaF,.aaF,.aaF,.aaF,.aaF,.aaF,.aaF]) (aH:=[.box E1 [.v (ii s.code)],.box E5 [.v (ii s.skip)],.box E6 [.v (ii s.place)],.gone,.box _ [.fn (.func 171) [] [.loc 0 0,.loc 1 0,.box (ar p) 0,.loc 2 0]],.vech 9 1 (bV f.params) (.slice ad f.params.length cp),.box _ [.v (.slice ad f.params.length cp)],.box _ [.fn (.func 127) [] [.loc 4 0,.loc 6 0,.box (ar p) 0,.loc 7 0]]]) al rfl ?_;refine GW.draw (.q 0 (.q 1 (.q 2 (.q 3 (.q 4 (.q 5 (.q 6 (.a 7 .nil)))))))) (by kernel_rfl) (by kernel_rfl) ?_;refine aj ?_;have hv:=Qi p E1 E5 E6;refine OA rfl rfl (GL.vS [0,1,2,4,6,7,5] (hv _ _ _ hp eH fG iT ju _ t (Nat.le_refl _) b s f.params ad cp bY ae) rfl rfl rfl (by repeat (first | exact trivial | refine ⟨rfl,?_⟩)) ?_);rintro _ _ ⟨rfl,pW,pY,rfl⟩;refine ⟨by simp [DU],?_⟩;unfold DU;refine dD ?_;refine aj ?_;exact lQ
end Go.Xg
namespace Go.Im
open Go.Xp Go.Sp
theorem H9 {l:List ah}:uz l=false↔∀ k,k < l.length->np l k=false:=by
 unfold uz;rw [any_eq_false];constructor
 ·intro h k hk;have:=h k (List.mem_range.2 hk);simpa using this
 ·intro h k hk;rw [h k (List.mem_range.1 hk)];decide
end Go.Im
namespace Go.Xg
open Go.RowKit Go.Xw Go.Proofs
open Go.Xp (Nd T Ar aK ay dQ)
open Go.Sp (Src)
open Go.Im
theorem YG.En {P:Program} {fr:List GV} {Γ:List Ob} {x up:Operand} {t e:TypeId} {k:Nat} [hT:mq P t e k] {rows:List (List GV)} {kk:IntKind} {i:Nat} (hx:aP fr x=.sl k rows) (ZY:aP fr up=.v (.int kk i)) (hi:i < rows.length):YG P (.slice t x none (some up) none) fr Γ (.sl k (rows.take i)):=fun B K β w l hI hF=>by
 have h:=hF.ev x;rw [hx] at h;have IA:=hF.gE ZY;generalize hv:ev l x=v at h
 cases h with
 | sl0 a c=>simp at hi
 | sl b o c _ _ h hc =>
  refine ⟨.slice (some ⟨b,o,none⟩) i c,fun d ty pos af=>?_,?_⟩
  ·have nH:¬ (c=0):=by omega
   have hle:(i:Int)<=(c:Int):=by omega
   have AK:i<=c:=by omega
   simp [execOp,Instr.sliceAt,Instr.slice,Instr.sliceBounds,Instr.sliceBound,asIntOf,hv,IA,run_underlying hT.und,im hT.siz,nH,hle,AK,pf]
  ·have:=Rel.sl (K:=K) (β:=β) b o c k (rows.take i) (fun j r hr=>?_) (by simp;omega)
   ·rw [length_take,Nat.min_eq_left (Nat.le_of_lt hi)] at this;exact this
   ·have hj:j < i:=by
     rcases Nat.lt_or_ge j i with h1 | h1
     ·exact h1
     ·rw [List.getElem?_eq_none (by rw [length_take];omega)] at hr;cases hr
    rw [List.getElem?_take,if_pos hj] at hr;exact h j r hr
attribute [local irreducible] GW GL GO YG GC GA aS aW
theorem Mf (p:Src) (i:Nat) (f:Go.Sp.Fn) (t:T) (hp:p.nodes.length<=1048576) (eH:∀ n∈p.nodes,n.kids.length<=1099511627776) (fG:p.fns.length<=1099511627776) (iT:p.arrays.length<=1099511627776) (ju:p.globals.length<=1099511627776)
  (hf:p.fns[i]?=some f) (xQ:f.params.length<=1048576) (hb:0<=f.body) (bY:eh p.nodes f.body.toNat t) (cI:aK t<=1048576) :
  GF Tryz.prog 140 [.agg (ar p),.v (ii (i:Nat))] [] (.tup [.v (ii (fa p f t f.body.toNat).1),.v (ii (fa p f t f.body.toNat).2)]) []:=by
 have hr:(p.fns.map au)[i]?=some (au f):=by rw [getElem?_map,hf];rfl
 have dO:(f.params.map fun s=>[GV.v (sv s)]).length=f.params.length:=by simp
 have hE:=RP p 3 3 3 i f t ⟨0,0,-1⟩ hp eH fG iT ju hf xQ hb bY cI;unfold au at hr;unfold fa;refine ai Tryz.func140 Tryz.ntmps140 ?_;refine GW.range (f.params.map fun s=>[GV.v (sv s)]).length (fun k fr Γ=>fr=[.aaF,.v (ii (i:Nat)),.loc 0 0,.aaF,.aaF,.aaF,strs f.params,.aaF,.aaF,.aaF,.aaF,.aaF,.aaF,.aaF,.aaF,.aaF,.aaF,.aaF,strs f.params,.v (ii ((f.params.map fun s=>[GV.v (sv s)]).length:Int)),.v (ii (k:Nat)),.aaF,.aaF,.aaF,.aaF,.aaF,.aaF,.aaF,.aaF,.aaF,.aaF,.aaF,.aaF,.aaF,.aaF,.aaF,.aaF]/\Γ=[.box 34 (ar p)]/\∀ j,j < k->np f.params j=false) ?_ ae ?_ ?_ ?_
 ·exact ⟨_,_,Wk.aw al,rfl,rfl,fun j hj=>absurd hj (Nat.not_lt_zero _)⟩
 ·rintro k _ _ ⟨rfl,rfl,_⟩;exact ⟨rfl,rfl,rfl⟩
 ·rintro k _ _ aq ⟨rfl,rfl,aO⟩;have mi:=aq;rw [dO] at aq;obtain ⟨x,hx⟩:∃ x,f.params[k]?=some x:=⟨f.params[k],by simp [aq]⟩
  have QW:(f.params.map fun s=>[GV.v (sv s)])[k]?=some [.v (sv x)]:=by rw [getElem?_map,hx];rfl
  have hC:=jW (f.params.take k) x (by rw [length_take];omega)
  have hd:np f.params k=(f.params.take k).contains x:=by unfold np;rw [hx]
  rw [<-hd] at hC;unfold strs at hC;rw [map_take] at hC
  cases eB:np f.params k with
  | true =>
   rw [eB] at hC
   have TP:uz f.params=true:=by
    cases h:uz f.params with
    | true=>rfl
    | false=>rw [H9.1 h k aq] at eB;cases eB
   rw [if_pos TP];refine ab ?_;refine GL.q (YG.En rfl rfl mi) ?_;refine bT ?_;refine ab ?_;refine U [] (hC) ?_;exact lR
  | false =>
   rw [eB] at hC;refine ab ?_;refine GL.q (YG.En rfl rfl mi) ?_;refine bT ?_;refine ab ?_;refine U [] (hC) ?_
   exact ⟨rfl,rfl,_,_,Wk.aw al,rfl,rfl,fun j hj=>by
    rcases Nat.lt_succ_iff_lt_or_eq.1 hj with h | rfl
    ·exact aO j h
    ·exact eB⟩
 ·rintro _ _ ⟨rfl,rfl,aO⟩;rw [dO] at aO;rw [if_neg (by rw [H9.2 aO];decide)];refine aD ?_;refine GW.wk (Wk.freeze (i:=0) rfl rfl rfl (Nat.zero_le _)) ?_;refine GW.L4 (bU:=[.aaF,.v (ii (i:Nat)),.box (ar p) 0,.aaF,.aaF,.aaF,.aaF,.aaF,.aaF,.aaF,.aaF,.aaF,.aaF,.aaF,.aaF,.aaF,.aaF,.aaF,.aaF,.aaF,.aaF,.aaF,.aaF,.aaF,.aaF,.aaF,.aaF,.aaF,.aaF,.aaF,.aaF,.aaF,.aaF,.aaF,.aaF,.aaF,.aaF]) (aH:=[.gone]) al rfl ?_;refine ab ?_;refine U [1,3,2] (hE) ?_;refine GW.draw (.q 0 (.q 1 (.q 2 (.q 3 .nil)))) (by kernel_rfl) (by kernel_rfl) ?_;refine aj ?_;exact qF
end Go.Xg
namespace Go.Im
open Go.Xp Go.Sp
theorem rM {l:List Ar} {k:Nat} {a:Ar} (h:l[k]?=some a):dx (l.take (k+1))=dx (l.take k)+a.size:=by
 unfold dx;rw [take_add_one,h,List.foldl_append];rfl
theorem uy {l:List Ar} (h:∀ a∈l,0<=a.size/\a.size<=2147483648):∀ k,0<=dx (l.take k)/\dx (l.take k)<=(k:Int) * 2147483648:=by
 intro k
 induction k with
 | zero=>simp [dx]
 | succ k ih =>
  cases hx:l[k]? with
  | none =>
   have:l.take (k+1)=l.take k:=by rw [take_add_one,hx];simp
   rw [this];omega
  | some a =>
   have:=h a (mem_of_getElem? hx);rw [rM hx];omega
end Go.Im
namespace Go.Xg
open Go.RowKit Go.Xw Go.Proofs
open Go.Xp (Nd T Ar aK ay)
open Go.Sp (Src)
open Go.Im
attribute [local irreducible] GW GL GO YG GC GA aS aW
theorem N2 (p:Src) (fG:p.fns.length<=1099511627776) (iT:p.arrays.length<=1048576) (cI:∀ a∈p.arrays,0<=a.size/\a.size<=2147483648):GF Tryz.prog 137 [.agg (ar p)] [] (.v (.bool (fO p))) []:=by
 have dO:(p.arrays.map aB).length=p.arrays.length:=by simp
 have iU:(p.fns.map au).length=p.fns.length:=by simp
 have ju:(p.globals.map fun s=>[GV.v (sv s)]).length=p.globals.length:=by simp
 have hC:=tI (oN:=170) (fun x=>decide (x.params.length > 40)) p.fns fG (fun x _=>K9 x);unfold fO;generalize p.fns.any (fun x=>decide (x.params.length > 40))=b4 at *;have hb:=uy cI;refine ai Tryz.func137 Tryz.ntmps137 ?_;refine GW.range (p.arrays.map aB).length (fun k fr Γ=>fr=[.aaF,.loc 0 0,.aaF,.v (ii (dx (p.arrays.take k))),.aaF,.aaF,.aaF,.sl 2 (p.arrays.map aB),.v (ii ((p.arrays.map aB).length:Int)),.v (ii (k:Nat)),.aaF,.aaF,.aaF,.aaF,.aaF,.aaF,.aaF,.aaF,.aaF,.aaF,.aaF,.aaF,.aaF,.aaF,.aaF,.aaF,.aaF,.aaF,.aaF,.aaF,.aaF,.aaF,.aaF,.aaF,.aaF,.aaF,.aaF,.aaF,.aaF,.aaF]/\Γ=[.box 34 (ar p)]/\(p.arrays.take k).all (fun a=>!(a.size==0))=true) ?_ ae ?_ ?_ ?_
 ·exact ⟨_,_,Wk.aw al,rfl,rfl,rfl⟩
 ·rintro k _ _ ⟨rfl,rfl,_⟩;exact ⟨rfl,rfl,rfl⟩
 ·rintro k _ _ aq ⟨rfl,rfl,aO⟩;rw [dO] at aq;obtain ⟨x,hx⟩:∃ x,p.arrays[k]?=some x:=⟨p.arrays[k],by simp [aq]⟩
  have hr:(p.arrays.map aB)[k]?=some (aB x):=by rw [getElem?_map,hx];rfl
  have bq:=mH (f:=fun a:Ar=>a.size==0) hx;have gH:=rM hx;have ef:=hb k;have oT:=cI x (mem_of_getElem? hx);unfold aB at hr
  cases h1:(x.size==0) with
  | true =>
   have:p.arrays.any (fun a=>a.size==0)=true:=List.any_eq_true.2 ⟨x,mem_of_getElem? hx,h1⟩;rw [this];exact av
  | false =>
   rw [gH];generalize dx (p.arrays.take k)=c at *;refine ab ?_;exact ⟨rfl,rfl,_,_,(Wk.cut (n:=1) (Nat.zero_le _) rfl).trans (Wk.aw al),rfl,rfl,by rw [bq,aO,h1];rfl⟩
 ·rintro _ _ ⟨rfl,rfl,aO⟩;rw [dO,take_length] at aO |-
  have:p.arrays.any (fun a=>a.size==0)=false:=by
   rw [any_eq_false];rw [List.all_eq_true] at aO;intro x hx;simpa using aO x hx
  rw [this];have e1:decide (p.fns.length > 40)=decide ((40:Int) < ((p.fns.map au).length:Int)):=decide_eq_decide.2 (by rw [iU];omega);have e2:decide (p.globals.length > 29)=decide ((29:Int) < ((p.globals.map fun s=>[GV.v (sv s)]).length:Int)):=decide_eq_decide.2 (by rw [ju];omega);have e3:decide (dx p.arrays > 8000)=decide ((8000:Int) < dx p.arrays):=rfl;rw [e1,e2,e3];generalize dx p.arrays=c at *;refine aD ?_
  cases h1:decide ((40:Int) < ((p.fns.map au).length:Int))
  all_goals cases h2:decide ((29:Int) < ((p.globals.map fun s=>[GV.v (sv s)]).length:Int))
  all_goals cases h3:decide ((8000:Int) < c)
  all_goals
   refine ab ?_
   first
    | (refine bG ?_;exact ⟨rfl,rfl⟩)
    | (refine gB [] (hC) ?_;refine ab ?_;refine bG ?_;exact ⟨rfl,rfl⟩)
end Go.Xg
namespace Go.Im
open Go.Xp Go.Sp
theorem Cm {l:List ah}:dU l=false↔∀ k,k < l.length->jS l k=false:=by
 unfold dU;rw [any_eq_false];constructor
 ·intro h k hk;have:=h k (List.mem_range.2 hk);simpa using this
 ·intro h k hk;rw [h k (List.mem_range.1 hk)];decide
theorem Fc (p:Src) (l:List T) (a:Nat):fb p [] l a=(0,0):=by unfold fb;rfl
end Go.Im
namespace Go.Xg
open Go.RowKit Go.Xw Go.Proofs
open Go.Xp (Nd T Ar aK ay)
open Go.Sp (Src)
open Go.Im
attribute [local irreducible] GW GL GO YG GC GA aS aW
theorem Lh (p:Src) (hF:GF Tryz.prog 136 [.agg (ar p)] [] (.v (.bool false)) []):GF Tryz.prog 103 [.agg (ar p)] [] (.tup [.v (ii 20),.v (ii 0)]) []:=by
 refine ai Tryz.func103 Tryz.ntmps103 ?_;refine U [] (hF) ?_;exact lR
theorem Jz (p:Src) (l:List T) (ns:List ah) (xO:ns.length<=8388608) (iU:p.fns.length=l.length) (fG:p.fns.length<=1048576)
  (hF:GF Tryz.prog 136 [.agg (ar p)] [] (.v (.bool true)) [])
  (hA:GC Tryz.prog 82 [.agg (ar p)] [] fun g Δ=>∃ a c,g=.v (.slice a ns.length c)/\Δ=[.vech 9 1 (bV ns) (.slice a ns.length c)])
  (hT:GF Tryz.prog 137 [.agg (ar p)] [] (.v (.bool (fO p))) [])
  (hq:∀ i f t,p.fns[i]?=some f->l[i]?=some t->GF Tryz.prog 140 [.agg (ar p),.v (ii (i:Nat))] [] (.tup [.v (ii (fa p f t (ay (l.take i))).1),.v (ii (fa p f t (ay (l.take i))).2)]) []) :
  GF Tryz.prog 103 [.agg (ar p)] []
   (.tup [.v (ii (if dU ns=true then ((21,0):Int × Int) else if fO p=true then (26,0) else if p.fns.any l0=false then (25,0) else fb p p.fns l 0).1),.v (ii (if dU ns=true then ((21,0):Int × Int) else if fO p=true then (26,0) else if p.fns.any l0=false then (25,0) else fb p p.fns l 0).2)]) []:=by
 have dO:(ns.map fun s=>[GV.v (sv s)]).length=ns.length:=by simp
 have iV:(p.fns.map au).length=p.fns.length:=by simp
 have hM:=tI (oN:=139) l0 p.fns ae (fun x _=>Oo x);generalize fO p=tm at *;refine ai Tryz.func103 Tryz.ntmps103 ?_;refine U [] (hF) ?_;refine bJ [] (hA) ?_;rintro _ _ ⟨ad,cp,rfl,rfl⟩;refine cj ?_;refine GL.wk (Wk.nB (t:=14) (i:=1) rfl rfl rfl) ?_;refine GL.wk (Wk.cut (n:=1) (Nat.zero_le _) rfl) ?_;refine GL.wk (Wk.aw (bU:=[.aaF,.loc 0 0,.aaF,.aaF,.aaF,.aaF,.aaF,.aaF,.aaF,.aaF,.aaF,.aaF,.aaF,.aaF,strs ns,.aaF,.aaF,.aaF,.aaF,.aaF,.aaF,.aaF,.aaF,.aaF,.aaF,.aaF,.aaF,.aaF,.aaF,.aaF,.aaF,.aaF,.aaF,.aaF,.aaF,.aaF,.aaF,.aaF,.aaF,.aaF,.aaF,.aaF,.aaF,.aaF,.aaF,.aaF,.aaF,.aaF,.aaF,.aaF,.aaF,.aaF,.aaF,.aaF,.aaF]) al) ?_;refine bT ?_;refine ab ?_;refine GW.range (ns.map fun s=>[GV.v (sv s)]).length (fun k fr Γ=>fr=[.aaF,.loc 0 0,.aaF,.aaF,strs ns,.aaF,.aaF,.aaF,.aaF,.aaF,.aaF,.aaF,.aaF,.aaF,.aaF,strs ns,.v (ii ((ns.map fun s=>[GV.v (sv s)]).length:Int)),.v (ii (k:Nat)),.aaF,.aaF,.aaF,.aaF,.aaF,.aaF,.aaF,.aaF,.aaF,.aaF,.aaF,.aaF,.aaF,.aaF,.aaF,.aaF,.aaF,.aaF,.aaF,.aaF,.aaF,.aaF,.aaF,.aaF,.aaF,.aaF,.aaF,.aaF,.aaF,.aaF,.aaF,.aaF,.aaF,.aaF,.aaF,.aaF,.aaF]/\Γ=[.box 34 (ar p)]/\∀ j,j < k->jS ns j=false) ?_ ae ?_ ?_ ?_
 ·exact ⟨_,_,Wk.aw al,rfl,rfl,fun j hj=>absurd hj (Nat.not_lt_zero _)⟩
 ·rintro k _ _ ⟨rfl,rfl,_⟩;exact ⟨rfl,rfl,rfl⟩
 ·rintro k _ _ aq ⟨rfl,rfl,aO⟩;have mi:=aq;rw [dO] at aq;obtain ⟨x,hx⟩:∃ x,ns[k]?=some x:=⟨ns[k],by simp [aq]⟩
  have QW:(ns.map fun s=>[GV.v (sv s)])[k]?=some [.v (sv x)]:=by rw [getElem?_map,hx];rfl
  have hR:=M5 x;have hC:=jW (ns.take k) x (by rw [length_take];omega)
  have hd:jS ns k=(lJ x || (ns.take k).contains x):=by unfold jS;rw [hx]
  unfold strs at hC;rw [map_take] at hC
  cases h1:lJ x with
  | true =>
   rw [h1] at hR hd
   have xG:dU ns=true:=by
    cases h:dU ns with
    | true=>rfl
    | false=>rw [Cm.1 h k aq] at hd;simp at hd
   rw [if_pos xG];refine ab ?_;refine U [] (hR) ?_;exact lR
  | false =>
   rw [h1] at hR hd
   cases eB:(ns.take k).contains x with
   | true =>
    rw [eB] at hC hd
    have xG:dU ns=true:=by
     cases h:dU ns with
     | true=>rfl
     | false=>rw [Cm.1 h k aq] at hd;simp at hd
    rw [if_pos xG];refine ab ?_;refine U [] (hR) ?_;refine GL.q (YG.En rfl rfl mi) ?_;refine bT ?_;refine ab ?_;refine U [] (hC) ?_;exact lR
   | false =>
    rw [eB] at hC hd;refine ab ?_;refine U [] (hR) ?_;refine GL.q (YG.En rfl rfl mi) ?_;refine bT ?_;refine ab ?_;refine U [] (hC) ?_
    exact ⟨rfl,rfl,_,_,Wk.aw al,rfl,rfl,fun j hj=>by
     rcases Nat.lt_succ_iff_lt_or_eq.1 hj with h | rfl
     ·exact aO j h
     ·exact hd⟩
 ·rintro _ _ ⟨rfl,rfl,aO⟩;rw [dO] at aO;rw [if_neg (show ¬ dU ns=true by rw [Cm.2 aO];decide)];refine aD ?_
  cases tm with
  | true =>
   rw [if_pos rfl];refine ab ?_;refine U [] (hT) ?_;exact lR
  | false =>
   rw [if_neg (by decide)]
   cases hmn:p.fns.any l0 with
   | false =>
    rw [hmn] at hM;rw [if_pos rfl];refine ab ?_;refine U [] (hT) ?_;refine U [] (hM) ?_;exact lR
   | true =>
    rw [hmn] at hM;rw [if_neg (by decide)];refine ab ?_;refine U [] (hT) ?_;refine U [] (hM) ?_;refine GW.range (p.fns.map au).length (fun k fr Γ=>fr=[.aaF,.loc 0 0,.aaF,.aaF,.aaF,.aaF,.aaF,.aaF,.aaF,.aaF,.aaF,.aaF,.aaF,.aaF,.aaF,.aaF,.aaF,.aaF,.aaF,.aaF,.aaF,.aaF,.aaF,.aaF,.aaF,.aaF,.aaF,.aaF,.aaF,.aaF,.aaF,.aaF,.aaF,.aaF,.aaF,.aaF,.aaF,.aaF,.aaF,.sl 3 (p.fns.map au),.v (ii ((p.fns.map au).length:Int)),.v (ii (k:Nat)),.aaF,.aaF,.aaF,.aaF,.aaF,.aaF,.aaF,.aaF,.aaF,.aaF,.aaF,.aaF,.aaF]/\Γ=[.box 34 (ar p)]/\fb p p.fns l 0=fb p (p.fns.drop k) (l.drop k) (ay (l.take k))) ?_ ae ?_ ?_ ?_
    ·exact ⟨_,_,Wk.aw al,rfl,rfl,by rw [List.drop_zero,List.drop_zero,List.take_zero,ay]⟩
    ·rintro k _ _ ⟨rfl,rfl,_⟩;exact ⟨rfl,rfl,rfl⟩
    ·rintro k _ _ aq ⟨rfl,rfl,he⟩;rw [iV] at aq;obtain ⟨f,hf⟩:∃ f,p.fns[k]?=some f:=⟨p.fns[k],by simp [aq]⟩;obtain ⟨t,ht⟩:∃ t,l[k]?=some t:=⟨l[k]'ae,getElem?_eq_getElem _⟩;have hQ:=hq k f t hf ht
     have MH:p.fns.drop k=f::p.fns.drop (k+1):=by rw [List.drop_eq_getElem_cons aq];rw [getElem?_eq_getElem aq] at hf;rw [Option.some.inj hf]
     have dc:l.drop k=t::l.drop (k+1):=by rw [List.drop_eq_getElem_cons ae];rw [getElem?_eq_getElem ae] at ht;rw [Option.some.inj ht]
     rw [MH,dc,fb,<-P4 ht] at he
     cases h1:((fa p f t (ay (l.take k))).1 != 0) with
     | true =>
      rw [if_pos (by simpa using h1)] at he;rw [he];generalize fa p f t (ay (l.take k))=r at *;refine ab ?_;refine U [] (hQ) ?_;exact lR
     | false =>
      rw [if_neg (by simpa using h1)] at he;generalize fa p f t (ay (l.take k))=r at *;refine ab ?_;refine U [] (hQ) ?_;exact ⟨rfl,rfl,_,_,Wk.aw al,rfl,rfl,he⟩
    ·rintro _ _ ⟨rfl,rfl,he⟩;rw [iV,List.drop_length,Fc] at he;rw [he];refine aD ?_;exact qF
theorem Mt (p:Src) (c z:Int) (h:GF Tryz.prog 103 [.agg (ar p)] [] (.tup [.v (ii c),.v (ii z)]) []):GF Tryz.prog 45 [.agg (ar p)] [] (.v (.bool (c==0))) []:=by
 refine ai Tryz.func45 Tryz.ntmps45 ?_;refine U [] (h) ?_;exact ao
end Go.Xg
namespace Go.Xg
open Go.RowKit Go.Xw Go.Proofs
open Go.Xp (Nd T Ar aK ay)
open Go.Sp (Src)
open Go.Im
attribute [local irreducible] GW GL GO YG GC GA aS aW
theorem R8 (p:Src) (fn:Int) (w g:Bool) (fG:p.fns.length<=1048576) (hg:GF Tryz.prog 45 [.agg (ar p)] [] (.v (.bool g)) [])
  (hW:GF Tryz.prog 53 [.v (ii fn),.v (ii 0),.v (ii (((p.fns.map au).length:Int) - 1))] [] (.v (.bool w)) []):GF Tryz.prog 55 [.agg (ar p),.v (ii fn)] [] (.v (.bool (w&&g))) []:=by
 have iV:(p.fns.map au).length=p.fns.length:=by simp
 cases w with
 | false =>
  refine ai Tryz.func55 Tryz.ntmps55 ?_;refine U [] (hW) ?_;exact ao
 | true =>
  refine ai Tryz.func55 Tryz.ntmps55 ?_;refine U [] (hW) ?_;refine U [] (hg) ?_;exact ao
end Go.Xg
set_option maxHeartbeats 2000000
namespace Go.Xg
open Go.RowKit Go.Xw Go.Proofs
open Go.Xp (Nd T Ar)
open Go.Sp (Src)
open Go.Im
attribute [local irreducible] GW GL GO YG GC GA aS aW
def cC (p:Src) (h:Value) (c:SS):List GV:=[strs p.globals,.sl 2 (p.arrays.map aB),.sl 3 (p.fns.map au),.sl 5 (p.nodes.map ax),.v h,.v (ii c.code),.v (ii c.at_)]
theorem gJ (p:Src) (h:Value) (c:SS) (k z:Int):GF Tryz.prog 153 [.loc 0 0,.v (ii k),.v (ii z)] [.box 133 (cC p h c)] (.tup []) [.box 133 (cC p h (c.fail k z))]:=by
 unfold SS.fail
 cases hc:(c.code==0) with
 | true =>
  rw [if_pos (by simpa using hc)];unfold cC;refine ai Tryz.func153 Tryz.ntmps153 ?_;exact fP
 | false =>
  rw [if_neg (by simpa using hc)];unfold cC;refine ai Tryz.func153 Tryz.ntmps153 ?_;exact fP
theorem Kp (s:ah):GF Tryz.prog 72 [.v (sv s)] [] (.v (.bool (lJ s))) []:=by
 unfold lJ ov pG iu
 cases h1:(s==[103,101,116])
 all_goals cases h2:(s==[112,117,116])
 all_goals
  refine ai Tryz.func72 Tryz.ntmps72 ?_;exact ao
theorem BO (p:Src) (s:ah) (hn:p.arrays.length<=1099511627776):GF Tryz.prog 116 [.agg (ar p),.v (sv s)] [] (.v (ii (cH (fun x:Ar=>x.name==s) p.arrays))) []:=by
 have dO:(p.arrays.map aB).length=p.arrays.length:=by simp
 refine ai Tryz.func116 Tryz.ntmps116 ?_;refine GW.range (p.arrays.map aB).length (fun k fr Γ=>fr=[.aaF,.v (sv s),.loc 0 0,.aaF,.aaF,.aaF,.aaF,.aaF,.sl 2 (p.arrays.map aB),.v (ii ((p.arrays.map aB).length:Int)),.v (ii (k:Nat)),.aaF,.aaF,.aaF,.aaF,.aaF,.aaF,.aaF,.aaF,.aaF,.aaF]/\Γ=[.box 34 (ar p)]/\(p.arrays.take k).all (fun y=>!(y.name==s))=true) ?_ ae ?_ ?_ ?_
 ·exact ⟨_,_,Wk.aw al,rfl,rfl,rfl⟩
 ·rintro k _ _ ⟨rfl,rfl,_⟩;exact ⟨rfl,rfl,rfl⟩
 ·rintro k _ _ aq ⟨rfl,rfl,aO⟩;rw [dO] at aq;obtain ⟨x,cP⟩:∃ x,p.arrays[k]?=some x:=⟨p.arrays[k],by simp [aq]⟩
  have hr:(p.arrays.map aB)[k]?=some (aB x):=by rw [getElem?_map,cP];rfl
  have bq:=mH (f:=fun y:Ar=>y.name==s) cP
  have hit:=fun h0=>nr (f:=fun y:Ar=>y.name==s) cP h0 aO
  unfold aB at hr
  cases hb:(x.name==s) with
  | true =>
   rw [hit hb];exact av
  | false =>
   refine ab ?_;exact ⟨rfl,rfl,_,_,(Wk.cut (n:=1) (Nat.zero_le _) rfl).trans (Wk.aw al),rfl,rfl,by rw [bq,aO,hb];rfl⟩
 ·rintro _ _ ⟨rfl,rfl,aO⟩;rw [dO,take_length] at aO;rw [kD aO];exact av
theorem CF (p:Src) (s:ah) (hn:p.fns.length<=1099511627776):GF Tryz.prog 117 [.agg (ar p),.v (sv s)] [] (.v (ii (cH (fun x:Go.Sp.Fn=>x.name==s) p.fns))) []:=by
 have dO:(p.fns.map au).length=p.fns.length:=by simp
 refine ai Tryz.func117 Tryz.ntmps117 ?_;refine GW.range (p.fns.map au).length (fun k fr Γ=>fr=[.aaF,.v (sv s),.loc 0 0,.aaF,.aaF,.aaF,.aaF,.aaF,.sl 3 (p.fns.map au),.v (ii ((p.fns.map au).length:Int)),.v (ii (k:Nat)),.aaF,.aaF,.aaF,.aaF,.aaF,.aaF,.aaF,.aaF,.aaF,.aaF]/\Γ=[.box 34 (ar p)]/\(p.fns.take k).all (fun y=>!(y.name==s))=true) ?_ ae ?_ ?_ ?_
 ·exact ⟨_,_,Wk.aw al,rfl,rfl,rfl⟩
 ·rintro k _ _ ⟨rfl,rfl,_⟩;exact ⟨rfl,rfl,rfl⟩
 ·rintro k _ _ aq ⟨rfl,rfl,aO⟩;rw [dO] at aq;obtain ⟨x,cP⟩:∃ x,p.fns[k]?=some x:=⟨p.fns[k],by simp [aq]⟩
  have hr:(p.fns.map au)[k]?=some (au x):=by rw [getElem?_map,cP];rfl
  have bq:=mH (f:=fun y:Go.Sp.Fn=>y.name==s) cP
  have hit:=fun h0=>nr (f:=fun y:Go.Sp.Fn=>y.name==s) cP h0 aO
  unfold au at hr
  cases hb:(x.name==s) with
  | true =>
   rw [hit hb];exact av
  | false =>
   refine ab ?_;exact ⟨rfl,rfl,_,_,(Wk.cut (n:=1) (Nat.zero_le _) rfl).trans (Wk.aw al),rfl,rfl,by rw [bq,aO,hb];rfl⟩
 ·rintro _ _ ⟨rfl,rfl,aO⟩;rw [dO,take_length] at aO;rw [kD aO];exact av
theorem wu (l:List Int) (n:Int) (hn:l.length<=1099511627776):GF Tryz.prog 51 [ints l,.v (ii n)] [] (.v (.bool (l.contains n))) []:=by
 have dO:(l.map fun i=>[GV.v (ii i)]).length=l.length:=by simp
 refine ai Tryz.func51 Tryz.ntmps51 ?_;refine GW.range (l.map fun i=>[GV.v (ii i)]).length (fun k fr Γ=>fr=[ints l,.v (ii n),.aaF,.aaF,.aaF,.aaF,.aaF,ints l,.v (ii ((l.map fun i=>[GV.v (ii i)]).length:Int)),.v (ii (k:Nat)),.aaF,.aaF,.aaF,.aaF,.aaF,.aaF,.aaF]/\Γ=[]/\(l.take k).contains n=false) ?_ ae ?_ ?_ ?_
 ·exact ⟨_,_,Wk.aw al,rfl,rfl,rfl⟩
 ·rintro k _ _ ⟨rfl,rfl,_⟩;exact ⟨rfl,rfl,rfl⟩
 ·rintro k _ _ aq ⟨rfl,rfl,hc⟩;rw [dO] at aq;obtain ⟨x,cP⟩:∃ x,l[k]?=some x:=⟨l[k],by simp [aq]⟩;have hr:=oY cP
  have bq:(l.take (k+1)).contains n=((l.take k).contains n || (x==n)):=by
   rw [take_add_one,cP,List.contains_append];show (_ || [x].contains n)=_
   congr 1
   rw [List.contains_cons,List.contains_nil,Bool.or_false];exact Bool.beq_comm
  have hm:=mem_of_getElem? cP
  cases hb:(x==n) with
  | true =>
   have h3:x=n:=by simpa using hb
   rw [show l.contains n=true by rw [<-h3];exact List.contains_iff_mem.2 hm];exact av
  | false =>
   refine ab ?_;exact ⟨rfl,rfl,_,_,Wk.aw al,rfl,rfl,by rw [bq,hc,hb];rfl⟩
 ·rintro _ _ ⟨rfl,rfl,hc⟩;rw [dO,take_length] at hc;rw [hc];exact av
end Go.Xg
set_option maxHeartbeats 4000000
namespace Go.Im
open Go.Xp Go.Sp
def xq (l:List ah) (k:Nat):Bool:=(List.range k).any (np l)
theorem Dl (l:List ah) (k:Nat):xq l (k+1)=(xq l k || np l k):=by
 unfold xq;rw [List.range_succ,List.any_append];simp
def jP (f:Go.Sp.Fn) (c:SS) (k:Nat):SS:=⟨f.params.take k,if xq f.params k=true then fE c.code 21 else c.code,if xq f.params k=true/\c.code=0 then 0 else c.at_⟩
theorem PH {f:Go.Sp.Fn} {c:SS} {k:Nat} (h:np f.params k=true):(jP f c (k+1)).code=((jP f c k).fail 21 0).code/\(jP f c (k+1)).at_=((jP f c k).fail 21 0).at_:=by
 unfold jP SS.fail;simp only [Dl,h,Bool.or_true,true_and,if_true];unfold fE
 cases xq f.params k <;> by_cases h0:c.code=0 <;> simp [h0]
theorem NC {f:Go.Sp.Fn} {c:SS} {k:Nat} (h:np f.params k=false):(jP f c (k+1)).code=(jP f c k).code/\(jP f c (k+1)).at_=(jP f c k).at_:=by
 unfold jP;simp only [Dl,h,Bool.or_false,and_self]
end Go.Im
namespace Go.Xg
open Go.RowKit Go.Xw Go.Proofs
open Go.Xp (Nd T Ar aK ay)
open Go.Sp (Src)
open Go.Im
attribute [local irreducible] GW GL GO YG GC GA aS aW
theorem Hz (p:Src) (h0:Value) (c:SS) (f:Go.Sp.Fn) (xQ:f.params.length<=1048576) :
  GC Tryz.prog 132 [.loc 0 0,.agg (au f)] [.box 133 (cC p h0 c)] fun g Δ=>g=.tup []/\∃ ad cp,Δ=[.box 133 (cC p (.slice ad f.params.length cp) (pL f c)),.vech 9 1 (bV f.params) (.slice ad f.params.length cp)]:=by
 have dO:(f.params.map fun s=>[GV.v (sv s)]).length=f.params.length:=by simp
 have oA:pL f c=⟨f.params,(jP f c f.params.length).code,(jP f c f.params.length).at_⟩:=by
  unfold pL jP xq uz;rfl
 rw [oA]
 have py:(jP f c 0).code=c.code/\(jP f c 0).at_=c.at_:=by unfold jP xq;simp
 rw [show cC p h0 c=cC p h0 (jP f c 0) by unfold cC;rw [py.1,py.2]];unfold cC au;refine db Tryz.func132 Tryz.ntmps132 ?_;refine GW.wk (Wk.mU 9 1) ?_;simp only [cons_append,nil_append];refine ab ?_;refine GW.range (f.params.map fun s=>[GV.v (sv s)]).length (fun k fr Γ=>∃ ad cp R n B,fr=[.loc 0 0,.aaF,.aaF,.loc 2 0,.aaF,.aaF,.aaF,.aaF,.aaF,.aaF,strs f.params,.v (ii ((f.params.map fun s=>[GV.v (sv s)]).length:Int)),.v (ii (k:Nat)),.aaF,.aaF,.aaF,.aaF,.aaF,.aaF,.aaF,.aaF,.aaF,.aaF,.aaF,.aaF,.aaF,.aaF,.aaF,.aaF,.aaF,.aaF,.aaF,.aaF,.aaF,.aaF]/\Γ=[.box 133 (cC p (.slice ad n cp) (jP f c k)),.vech 9 1 R (.slice ad n cp),B]/\R.length=n/\R=bV (f.params.take k)) ?_ ae ?_ ?_ ?_
 ·exact ⟨_,_,Wk.aw al,none,0,[],0,_,rfl,rfl,rfl,by simp [bV]⟩
 ·rintro k _ _ ⟨ad,cp,R,n,B,rfl,rfl,_⟩;exact ⟨rfl,rfl,rfl⟩
 ·rintro k _ _ aq ⟨ad,cp,R,n,B,rfl,rfl,eu,hR⟩;rw [dO] at aq;obtain ⟨x,hx⟩:∃ x,f.params[k]?=some x:=⟨f.params[k],by simp [aq]⟩
  have QW:(f.params.map fun s=>[GV.v (sv s)])[k]?=some [.v (sv x)]:=by rw [getElem?_map,hx];rfl
  have bq:bV (f.params.take (k+1))=R++[[.v (sv x)]]:=by rw [take_add_one,hx,hR];simp [bV]
  have rf:n<=1048576:=by rw [<-eu,hR,vG,length_take];omega
  have hL:GF Tryz.prog 74 [.sl 1 R,.v (sv x)] [] (.v (.bool ((f.params.take k).contains x))) []:=by
   rw [hR];exact iO (f.params.take k) x (by rw [length_take];omega)
  have hd:np f.params k=(f.params.take k).contains x:=by unfold np;rw [hx]
  rw [<-hd] at hL;have gn:=gJ p (.slice ad n cp) (jP f c k) 21 0;clear hR
  cases hb:np f.params k with
  | true =>
   rw [hb] at hL;obtain ⟨e1,e2⟩:=PH (c:=c) hb;unfold cC at gn |-;rw [e1,e2];generalize (jP f c k).fail 21 0=s1 at *;generalize jP f c k=s0 at *;refine ab ?_;refine GL.borrow hL (fun B K β w l hI hF=>gC (A:=[_]) (C:=[_]) hI hF rfl rfl) ?_;refine bT ?_;refine ab ?_;refine U [0] (gn) ?_;refine GL.jG 1 rfl rfl rfl rfl rfl rfl rfl rfl (by first | rfl | assumption) ⟨⟨by omega,by omega⟩,by decide⟩ ?_;intro sr sy;refine bI ?_;refine ab ?_;exact ⟨rfl,rfl,_,_,Wk.aw al,sr,sy,_,_,_,rfl,rfl,by simp [eu],bq.symm⟩
  | false =>
   rw [hb] at hL;obtain ⟨e1,e2⟩:=NC (c:=c) hb;unfold cC at gn |-;rw [e1,e2];generalize jP f c k=s0 at *;refine ab ?_;refine GL.borrow hL (fun B K β w l hI hF=>gC (A:=[_]) (C:=[_]) hI hF rfl rfl) ?_;refine bT ?_;refine ab ?_;refine GL.jG 1 rfl rfl rfl rfl rfl rfl rfl rfl (by first | rfl | assumption) ⟨⟨by omega,by omega⟩,by decide⟩ ?_;intro sr sy;refine bI ?_;refine ab ?_;exact ⟨rfl,rfl,_,_,Wk.aw al,sr,sy,_,_,_,rfl,rfl,by simp [eu],bq.symm⟩
 ·rintro _ _ ⟨ad,cp,R,n,B,rfl,rfl,eu,hR⟩;rw [dO] at hR |-;rw [take_length] at hR
  have ri:n=f.params.length:=by rw [<-eu,hR,vG]
  subst ri;refine ab ?_
  (repeat (first | refine GW.ret ?_ | refine cr ?_ | refine cn ?_ | refine aD ?_ | refine bQ ?_))
  exact Tr (n:=2) rfl (by first | exact .inr rfl | exact .inl rfl) (Nat.le_of_ble_eq_true rfl) rfl ⟨rfl,ad,cp,by rw [hR];rfl⟩
end Go.Xg
namespace Go.Xg
open Go.RowKit Go.Xw Go.Proofs
open Go.Xp (Nd T Ar aK ay)
open Go.Sp (Src)
open Go.Im
attribute [local irreducible] GW GL GO YG GC GA aS aW
def cO (p:Src) (c:SS) (ls:List ah) (ad:Option Addr) (cp:Nat):List Ob:=[.box 133 (cC p (.slice ad ls.length cp) c),.vech 9 1 (bV ls) (.slice ad ls.length cp)]
theorem Hx (p:Src) (c:SS) (n:Nd) (l:List T) (ad:Option Addr) (cp:Nat) (h1:(n.s==[103,101,116])=true) (hl:l.length<=1099511627776) :
  GF Tryz.prog 154 [.loc 0 0,.agg (cT (.mk n l))] (cO p c c.ls ad cp) (.v (.bool true)) (cO p (et c n l.length 0) c.ls ad cp):=by
 have eP:(aL l).length=l.length:=aM l;unfold cO;unfold et;show GF _ _ _ _ (.v (.bool true)) [.box _ (cC p _ (if l.length≠0 then _ else _)),_];have gn:=gJ p (.slice ad c.ls.length cp) c 23 n.at_;unfold cC at gn |-
 cases hk:(((aL l).length:Int) != ((0:Nat):Int)) with
 | true =>
  rw [if_pos (show l.length≠0 by rw [eP,bne_iff_ne] at hk;omega)];generalize c.fail 23 n.at_=c1 at *;refine ai Tryz.func154 Tryz.ntmps154 ?_;refine U [0] (gn) ?_;exact ao
 | false =>
  rw [if_neg (show ¬ l.length≠0 by rw [eP,bne_eq_false_iff_eq] at hk;omega)];refine ai Tryz.func154 Tryz.ntmps154 ?_;exact ao
theorem Hy (p:Src) (c:SS) (n:Nd) (l:List T) (ad:Option Addr) (cp:Nat) (h1:(n.s==[103,101,116])=false) (h2:(n.s==[112,117,116])=true) (hl:l.length<=1099511627776) :
  GF Tryz.prog 154 [.loc 0 0,.agg (cT (.mk n l))] (cO p c c.ls ad cp) (.v (.bool true)) (cO p (et c n l.length 1) c.ls ad cp):=by
 have eP:(aL l).length=l.length:=aM l;unfold cO;unfold et;show GF _ _ _ _ (.v (.bool true)) [.box _ (cC p _ (if l.length≠1 then _ else _)),_];have gn:=gJ p (.slice ad c.ls.length cp) c 23 n.at_;unfold cC at gn |-
 cases hk:(((aL l).length:Int) != ((1:Nat):Int)) with
 | true =>
  rw [if_pos (show l.length≠1 by rw [eP,bne_iff_ne] at hk;omega)];generalize c.fail 23 n.at_=c1 at *;refine ai Tryz.func154 Tryz.ntmps154 ?_;refine U [0] (gn) ?_;exact ao
 | false =>
  rw [if_neg (show ¬ l.length≠1 by rw [eP,bne_eq_false_iff_eq] at hk;omega)];refine ai Tryz.func154 Tryz.ntmps154 ?_;exact ao
theorem Km (p:Src) (c:SS) (n:Nd) (l:List T) (ad:Option Addr) (cp:Nat) (h1:(n.s==[103,101,116])=false) (h2:(n.s==[112,117,116])=false) (h3:(n.s==[115,105,122,101])=false) (hl:l.length<=1099511627776)
  (hF:GF Tryz.prog 117 [.agg (ar p),.v (sv n.s)] [] (.v (ii (-1))) []) :
  GF Tryz.prog 154 [.loc 0 0,.agg (cT (.mk n l))] (cO p c c.ls ad cp) (.v (.bool false)) (cO p (c.fail 22 n.at_) c.ls ad cp):=by
 have gn:=gJ p (.slice ad c.ls.length cp) c 22 n.at_
 have hd:decide ((-1:Int) < 0)=true:=by decide
 unfold cO;unfold cC at gn |-;generalize c.fail 22 n.at_=c1 at *;refine ai Tryz.func154 Tryz.ntmps154 ?_;refine GW.draw (.q 0 (.q 1 (.q 2 (.q 3 (.q 4 (.q 5 (.q 6 (.a 7 (.q 8 .nil))))))))) (by kernel_rfl) (by kernel_rfl) ?_;refine aj ?_;refine az [] (hF) ?_;refine ab ?_;refine U [0] (gn) ?_;exact ao
theorem Kl (p:Src) (c:SS) (n:Nd) (l:List T) (i:Nat) (f:Go.Sp.Fn) (ad:Option Addr) (cp:Nat) (h1:(n.s==[103,101,116])=false) (h2:(n.s==[112,117,116])=false) (h3:(n.s==[115,105,122,101])=false) (hl:l.length<=1099511627776)
  (hf:p.fns[i]?=some f) (hF:GF Tryz.prog 117 [.agg (ar p),.v (sv n.s)] [] (.v (ii ((i:Nat):Int))) []) :
  GF Tryz.prog 154 [.loc 0 0,.agg (cT (.mk n l))] (cO p c c.ls ad cp) (.v (.bool true)) (cO p (et c n l.length f.params.length) c.ls ad cp):=by
 have eP:(aL l).length=l.length:=aM l
 have hd:decide (((i:Nat):Int) < 0)=false:=by simp
 have hr:(p.fns.map au)[i]?=some (au f):=by rw [getElem?_map,hf];rfl
 have cB:(f.params.map fun s=>[GV.v (sv s)]).length=f.params.length:=by simp
 unfold au at hr;rw [<-cB];unfold cO;unfold et;show GF _ _ _ _ (.v (.bool true)) [.box _ (cC p _ (if l.length≠(f.params.map fun s=>[GV.v (sv s)]).length then _ else _)),_];have gn:=gJ p (.slice ad c.ls.length cp) c 23 n.at_;unfold cC at gn |-
 cases hk:(((aL l).length:Int) != (((f.params.map fun s=>[GV.v (sv s)]).length:Nat):Int)) with
 | true =>
  rw [if_pos (show l.length≠(f.params.map fun s=>[GV.v (sv s)]).length by rw [eP,bne_iff_ne] at hk;omega)];generalize c.fail 23 n.at_=c1 at *;refine ai Tryz.func154 Tryz.ntmps154 ?_;refine GW.draw (.q 0 (.q 1 (.q 2 (.q 3 (.q 4 (.q 5 (.q 6 (.a 7 (.q 8 .nil))))))))) (by kernel_rfl) (by kernel_rfl) ?_;refine aj ?_;refine az [] (hF) ?_;refine ab ?_;refine U [0] (gn) ?_;exact ao
 | false =>
  rw [if_neg (show ¬ l.length≠(f.params.map fun s=>[GV.v (sv s)]).length by rw [eP,bne_eq_false_iff_eq] at hk;omega)];refine ai Tryz.func154 Tryz.ntmps154 ?_;refine GW.draw (.q 0 (.q 1 (.q 2 (.q 3 (.q 4 (.q 5 (.q 6 (.a 7 (.q 8 .nil))))))))) (by kernel_rfl) (by kernel_rfl) ?_;refine aj ?_;refine az [] (hF) ?_;exact av
end Go.Xg
namespace Go.Xg
open Go.RowKit Go.Xw Go.Proofs
open Go.Xp (Nd T Ar aK ay)
open Go.Sp (Src)
open Go.Im
attribute [local irreducible] GW GL GO YG GC GA aS aW
theorem Ec (p:Src) (c:SS) (n:Nd) (u:T) (ad:Option Addr) (cp:Nat) (h1:(n.s==[103,101,116])=false) (h2:(n.s==[112,117,116])=false) (h3:(n.s==[115,105,122,101])=true) (iT:p.arrays.length<=1099511627776) (lX:c.ls.length<=1099511627776) :
  GF Tryz.prog 154 [.loc 0 0,.agg (cT (.mk n [u]))] (cO p c c.ls ad cp) (.v (.bool false)) (cO p (if fQ p u.n c.ls=true then c.fail 24 n.at_ else c) c.ls ad cp):=by
 have rj:(aL [u])[0]?=some (cT u):=cJ rfl;have hA:=BO p u.n.s iT;have hL:=iO c.ls u.n.s lX;have gn:=gJ p (.slice ad c.ls.length cp) c 24 n.at_;rw [show fQ p u.n c.ls=((u.n.kind != 2 || decide (cH (fun x:Ar=>x.name==u.n.s) p.arrays < 0)) || c.ls.contains u.n.s) from rfl];generalize cH (fun x:Ar=>x.name==u.n.s) p.arrays=z at *;unfold cO;unfold cC at gn |-
 cases h4:(u.n.kind != 2) with
 | true =>
  rw [if_pos (by first | rfl | decide)];generalize c.fail 24 n.at_=c1 at *;refine ai Tryz.func154 Tryz.ntmps154 ?_;refine GW.draw (.q 0 (.q 1 (.q 2 (.q 3 (.q 4 (.q 5 (.q 6 (.q 7 (.q 8 (.q 9 (.q 10 (.q 11 (.q 12 (.q 13 (.q 14 (.q 15 (.q 16 (.q 17 (.q 18 (.q 19 (.q 20 (.a 21 (.q 22 (.q 23 (.q 24 (.q 25 (.q 26 (.q 27 (.q 28 (.q 29 (.q 30 (.q 31 (.q 32 (.q 33 (.q 34 (.a 35 (.q 36 (.q 37 .nil)))))))))))))))))))))))))))))))))))))) (by kernel_rfl) (by kernel_rfl) ?_;refine aj ?_;refine aj ?_;refine ab ?_;refine U [0] (gn) ?_;exact ao
 | false =>
  cases h5:decide (z < 0) with
  | true =>
   rw [if_pos (by first | rfl | decide)];generalize c.fail 24 n.at_=c1 at *;refine ai Tryz.func154 Tryz.ntmps154 ?_;refine GW.draw (.q 0 (.q 1 (.q 2 (.q 3 (.q 4 (.q 5 (.q 6 (.q 7 (.q 8 (.q 9 (.q 10 (.q 11 (.q 12 (.q 13 (.q 14 (.q 15 (.q 16 (.q 17 (.q 18 (.q 19 (.q 20 (.a 21 (.q 22 (.q 23 (.q 24 (.q 25 (.q 26 (.q 27 (.q 28 (.q 29 (.q 30 (.q 31 (.q 32 (.q 33 (.q 34 (.a 35 (.q 36 (.q 37 .nil)))))))))))))))))))))))))))))))))))))) (by kernel_rfl) (by kernel_rfl) ?_;refine aj ?_;refine bu [] (hA) ?_;refine aj ?_;refine ab ?_;refine U [0] (gn) ?_;exact ao
  | false =>
   generalize c.ls.contains u.n.s=b at *
   cases b with
   | true =>
    rw [if_pos (by first | rfl | decide)];generalize c.fail 24 n.at_=c1 at *;refine ai Tryz.func154 Tryz.ntmps154 ?_;refine GW.draw (.q 0 (.q 1 (.q 2 (.q 3 (.q 4 (.q 5 (.q 6 (.q 7 (.q 8 (.q 9 (.q 10 (.q 11 (.q 12 (.q 13 (.q 14 (.q 15 (.q 16 (.q 17 (.q 18 (.q 19 (.q 20 (.a 21 (.q 22 (.q 23 (.q 24 (.q 25 (.q 26 (.q 27 (.q 28 (.q 29 (.q 30 (.q 31 (.q 32 (.q 33 (.q 34 (.a 35 (.q 36 (.q 37 .nil)))))))))))))))))))))))))))))))))))))) (by kernel_rfl) (by kernel_rfl) ?_;refine aj ?_;refine bu [] (hA) ?_;refine Qr rfl rfl rfl (by first | exact rfl | assumption) (GL.borrow hL (fun B K β w l hI hF=>gC (A:=[_]) (C:=[_]) hI hF rfl rfl) ?_);refine dD ?_;refine aj ?_;refine ab ?_;refine U [0] (gn) ?_;exact ao
   | false =>
    rw [if_neg (by decide)];refine ai Tryz.func154 Tryz.ntmps154 ?_;refine GW.draw (.q 0 (.q 1 (.q 2 (.q 3 (.q 4 (.q 5 (.q 6 (.q 7 (.q 8 (.q 9 (.q 10 (.q 11 (.q 12 (.q 13 (.q 14 (.q 15 (.q 16 (.q 17 (.q 18 (.q 19 (.q 20 (.a 21 (.q 22 (.q 23 (.q 24 (.q 25 (.q 26 (.q 27 (.q 28 (.q 29 (.q 30 (.q 31 (.q 32 (.q 33 (.q 34 (.a 35 (.q 36 (.q 37 .nil)))))))))))))))))))))))))))))))))))))) (by kernel_rfl) (by kernel_rfl) ?_;refine aj ?_;refine bu [] (hA) ?_;refine Qr rfl rfl rfl (by first | exact rfl | assumption) (GL.borrow hL (fun B K β w l hI hF=>gC (A:=[_]) (C:=[_]) hI hF rfl rfl) ?_);refine dD ?_;refine aj ?_;exact av
theorem Ed (p:Src) (c:SS) (n:Nd) (l:List T) (ad:Option Addr) (cp:Nat) (h1:(n.s==[103,101,116])=false) (h2:(n.s==[112,117,116])=false) (h3:(n.s==[115,105,122,101])=true) (hl:l.length≠1) :
  GF Tryz.prog 154 [.loc 0 0,.agg (cT (.mk n l))] (cO p c c.ls ad cp) (.v (.bool false)) (cO p (c.fail 23 n.at_) c.ls ad cp):=by
 have gn:=gJ p (.slice ad c.ls.length cp) c 23 n.at_;have eP:(aL l).length=l.length:=aM l
 have g1:(((aL l).length:Int)==1)=false:=by rw [eP,beq_eq_false_iff_ne];omega
 have g2:(((aL l).length:Int) != 1)=true:=by rw [eP,bne_iff_ne];omega
 unfold cO;unfold cC at gn |-;generalize c.fail 23 n.at_=c1 at *;refine ai Tryz.func154 Tryz.ntmps154 ?_;refine GW.draw (.q 0 (.q 1 (.q 2 (.q 3 (.q 4 (.q 5 (.q 6 (.q 7 (.q 8 (.q 9 (.q 10 (.q 11 (.q 12 (.q 13 (.q 14 (.q 15 (.q 16 (.q 17 (.q 18 (.q 19 (.q 20 (.a 21 (.q 22 (.q 23 (.q 24 (.q 25 (.q 26 (.q 27 (.q 28 (.q 29 (.q 30 (.q 31 (.q 32 (.q 33 (.q 34 (.a 35 (.q 36 (.q 37 .nil)))))))))))))))))))))))))))))))))))))) (by kernel_rfl) (by kernel_rfl) ?_;refine aj ?_;refine ab ?_;refine U [0] (gn) ?_;exact ao
end Go.Xg
namespace Go.Xg
open Go.RowKit Go.Xw Go.Proofs
open Go.Xp (Nd T Ar aK ay)
open Go.Sp (Src)
open Go.Im
attribute [local irreducible] GW GL GO YG GC GA aS aW
theorem Nb (p:Src) (c:SS) (t:T) (ad:Option Addr) (cp:Nat) (iT:p.arrays.length<=1099511627776) (fG:p.fns.length<=1099511627776) (lX:c.ls.length<=1099511627776) (hl:t.kids.length<=1099511627776) :
  GF Tryz.prog 154 [.loc 0 0,.agg (cT t)] (cO p c c.ls ad cp) (.v (.bool (fg p c t).2)) (cO p (fg p c t).1 c.ls ad cp):=by
 cases t with
 | mk n l =>
 have hl:l.length<=1099511627776:=hl
 cases h1:(n.s==[103,101,116]) with
 | true =>
  have e:fg p c (.mk n l)=(et c n l.length 0,true):=by
   unfold fg ov;exact if_pos (show n.s=_ by simpa using h1)
  rw [e];exact Hx p c n l ad cp h1 hl
 | false =>
  have n1:¬ n.s=[103,101,116]:=by simpa using h1
  cases h2:(n.s==[112,117,116]) with
  | true =>
   have e:fg p c (.mk n l)=(et c n l.length 1,true):=by
    unfold fg ov pG;rw [if_neg (show ¬ (T.mk n l).n.s=_ from n1)];exact if_pos (show n.s=_ by simpa using h2)
   rw [e];exact Hy p c n l ad cp h1 h2 hl
  | false =>
   have n2:¬ n.s=[112,117,116]:=by simpa using h2
   cases h3:(n.s==[115,105,122,101]) with
   | true =>
    have e:fg p c (.mk n l)=(et (if l.length=1/\fQ p (mT (.mk n l)) c.ls=true then c.fail 24 n.at_ else c) n l.length 1,false):=by
     unfold fg ov pG iu;rw [if_neg (show ¬ (T.mk n l).n.s=_ from n1),if_neg (show ¬ (T.mk n l).n.s=_ from n2)];exact if_pos (show n.s=_ by simpa using h3)
    rw [e]
    by_cases hk:l.length=1
    ·obtain ⟨u,rfl⟩:∃ u,l=[u]:=by
      match l,hk with
      | [u],_=>exact ⟨u,rfl⟩
     have e2:et (if [u].length=1/\fQ p (mT (.mk n [u])) c.ls=true then c.fail 24 n.at_ else c) n [u].length 1=(if fQ p u.n c.ls=true then c.fail 24 n.at_ else c):=by
      unfold et;rw [if_neg (by simp)];show (if _/\fQ p u.n c.ls=true then _ else _)=_
      by_cases hb:fQ p u.n c.ls=true
      ·rw [if_pos hb];exact if_pos ⟨rfl,hb⟩
      ·rw [if_neg hb];exact if_neg fun h=>hb h.2
     rw [e2];exact Ec p c n u ad cp h1 h2 h3 iT lX
    ·have e2:et (if l.length=1/\fQ p (mT (.mk n l)) c.ls=true then c.fail 24 n.at_ else c) n l.length 1=c.fail 23 n.at_:=by
      rw [if_neg fun h=>hk h.1];unfold et;exact if_pos hk
     rw [e2];exact Ed p c n l ad cp h1 h2 h3 hk
   | false =>
    have n3:¬ n.s=[115,105,122,101]:=by simpa using h3
    have hF:=CF p n.s fG;unfold cH at hF
    cases hx:p.fns.findIdx? (fun f:Go.Sp.Fn=>f.name==n.s) with
    | none =>
     rw [hx] at hF
     have e:fg p c (.mk n l)=(c.fail 22 n.at_,false):=by
      unfold fg ov pG iu;rw [if_neg (show ¬ (T.mk n l).n.s=_ from n1),if_neg (show ¬ (T.mk n l).n.s=_ from n2),if_neg (show ¬ (T.mk n l).n.s=_ from n3)];show (match p.fns.findIdx? (fun f:Go.Sp.Fn=>f.name==n.s) with | none=>_ | some i=>_)=_;rw [hx];rfl
     rw [e];exact Km p c n l ad cp h1 h2 h3 hl hF
    | some i =>
     rw [hx] at hF;have hi:i < p.fns.length:=(List.findIdx?_eq_some_iff_getElem.1 hx).1;obtain ⟨f,hf⟩:∃ f,p.fns[i]?=some f:=⟨p.fns[i],by simp [hi]⟩
     have e:fg p c (.mk n l)=(et c n l.length f.params.length,true):=by
      unfold fg ov pG iu;rw [if_neg (show ¬ (T.mk n l).n.s=_ from n1),if_neg (show ¬ (T.mk n l).n.s=_ from n2),if_neg (show ¬ (T.mk n l).n.s=_ from n3)];show (match p.fns.findIdx? (fun f:Go.Sp.Fn=>f.name==n.s) with | none=>_ | some i=>_)=_;rw [hx];show (et c n l.length (lg p i),true)=_;unfold lg;rw [hf]
     rw [e];exact Kl p c n l i f ad cp h1 h2 h3 hl hf hF
end Go.Xg
namespace Go.Im
open Go.Xp Go.Sp
theorem DN (p:Src) (u:T):∀ (l:List T) (c:SS),gO p (l++[u]) c=mC p u (gO p l c)
 | [],c=>by rw [nil_append,gO,gO,gO]
 | t::l,c=>by rw [cons_append,gO,gO,DN p u l]
theorem Nu (p:Src) {l:List T} {k:Nat} {u:T} (h:l[k]?=some u) (c:SS):gO p (l.take (k+1)) c=mC p u (gO p (l.take k) c):=by
 rw [take_add_one,h];exact DN p u _ c
theorem Qe (c:SS) (n:Nd):(lr c n).ls.length<=c.ls.length+1:=by
 unfold lr;split
 ·omega
 split
 ·simp [SS.nq]
 split
 ·simp [SS.nq]
 ·simp
mutual
theorem Sk (p:Src):∀ (t:T) (c:SS),(mC p t c).ls.length<=c.ls.length+aK t
 | .mk n l,c=>by
  rw [mC,aK];refine Nat.le_trans (Qe _ _) ?_;split
  ·have:=wz p l (iP p c (.mk n l)).1;rw [vB] at this;omega
  ·rw [vB];omega
theorem wz (p:Src):∀ (l:List T) (c:SS),(gO p l c).ls.length<=c.ls.length+ay l
 | [],c=>by rw [gO,ay];omega
 | t::r,c=>by
  rw [gO,ay];have h1:=wz p r (mC p t c);have h2:=Sk p t c;omega
end
end Go.Im
namespace Go.Xg
open Go.RowKit Go.Xw Go.Proofs
open Go.Xp (Nd T Ar aK ay b7)
open Go.Sp (Src)
open Go.Im
attribute [local irreducible] GW GL GO YG GC GA aS aW
theorem Nc (p:Src) (iT:p.arrays.length<=1099511627776) (fG:p.fns.length<=1099511627776) (ju:p.globals.length<=1099511627776):∀ (N:Nat) (t:T),aK t<=N->∀ (c:SS) (ad:Option Addr) (cp:Nat),c.ls.length+aK t<=8388608 ->
  GC Tryz.prog 133 [.loc 0 0,.agg (cT t)] (cO p c c.ls ad cp) fun g Δ=>g=.tup []/\∃ pW pY,Δ=cO p (mC p t c) (mC p t c).ls pW pY:=by
 intro N
 induction N with
 | zero=>intro t h;have:=jU t;omega
 | succ N ih =>
 intro t hN c ad cp lX
 cases t with
 | mk n l =>
 rw [Go.Xp.aK] at hN lX;have pB:=b7 l;have eP:(aL l).length=l.length:=aM l;rw [mC];have cB:=vB p c (.mk n l);have hL:=iO c.ls n.s ae;have hG:=iO p.globals n.s ju;have hA:=BO p n.s iT;have hC:=Nb p c (.mk n l) ad cp iT fG ae (by show l.length<=_;omega);have QE:=gJ p (.slice ad c.ls.length cp) c 22 n.at_;have Ix:=gJ p (.slice ad c.ls.length cp) c 24 n.at_
 have he:iP p c (.mk n l)=(if n.kind=2\/n.kind=7 then (if c.ls.contains n.s=false/\p.globals.contains n.s=false then c.fail 22 n.at_ else c,true)
  else if n.kind=3\/n.kind=8 then (if c.ls.contains n.s=true\/cH (fun x:Ar=>x.name==n.s) p.arrays < 0 then c.fail 24 n.at_ else c,true)
  else if n.kind=4 then fg p c (.mk n l) else (c,true)):=rfl
 obtain ⟨P,hP⟩:∃ P,iP p c (.mk n l)=P:=⟨_,rfl⟩;rw [hP] at he cB |-;unfold cO at hC |-;unfold cC at hC QE Ix |-;refine ai Tryz.func133 Tryz.ntmps133 ?_;refine GW.draw (.q 0 (.q 1 (.q 2 (.q 3 (.q 4 (.q 5 (.a 6 (.q 7 .nil)))))))) (by kernel_rfl) (by kernel_rfl) ?_;refine aj ?_;refine OA rfl rfl (GL.borrow hL (fun B K β w l hI hF=>gC (A:=[_]) (C:=[_,_]) hI hF rfl rfl) ?_);refine dD ?_;refine aj ?_;refine Jw ?_;refine GW.join (fun fr Γ=>fr=[.loc 0 0,.aaF,.aaF,.loc 2 0,.loc 3 0,.aaF,.v (.bool P.2),.aaF,.aaF,.aaF,.aaF,.aaF,.aaF,.aaF,.aaF,.aaF,.aaF,.aaF,.aaF,.aaF,.aaF,.aaF,.aaF,.aaF,.aaF,.aaF,.aaF,.aaF,.aaF,.aaF,.aaF,.aaF,.aaF,.aaF,.aaF,.aaF,.aaF,.aaF,.aaF,.aaF,.aaF,.aaF,.aaF,.aaF,.aaF,.aaF,.aaF,.aaF,.aaF,.aaF,.aaF,.aaF,.aaF,.aaF,.aaF,.aaF,.aaF,.aaF,.aaF,.aaF,.aaF,.aaF,.aaF,.aaF,.aaF,.aaF,.aaF,.aaF,.aaF,.aaF,.aaF,.aaF,.aaF,.aaF,.aaF,.aaF,.aaF,.aaF,.aaF,.aaF,.aaF,.aaF,.aaF,.aaF,.aaF,.aaF,.aaF,.aaF,.aaF,.aaF,.aaF,.aaF,.aaF,.aaF,.aaF,.aaF,.aaF,.aaF,.aaF,.aaF,.aaF,.aaF,.aaF,.aaF,.aaF,.aaF,.aaF,.aaF,.aaF,.aaF]/\Γ=[.box 133 (cC p (.slice ad c.ls.length cp) P.1),.vech 9 1 (bV c.ls) (.slice ad c.ls.length cp),.box 94 (cT (.mk n l)),.box 91 (ax n)]) ?_ ?_
 ·obtain ⟨kd,at_,nn,s,ks⟩:=n;simp only at *;unfold cC;generalize fg p c (.mk ⟨kd,at_,nn,s,ks⟩ l)=cs at *;generalize cH (fun x:Ar=>x.name==s) p.arrays=z at *;generalize c.ls.contains s=b at *;generalize p.globals.contains s=g at *;generalize c.fail 22 at_=c22 at *;generalize c.fail 24 at_=c24 at *
  by_cases h2:kd=2
  ·subst h2
   have q2:((2:Int)==2)=true:=by decide
   rw [if_pos (by decide)] at he;subst he
   cases b with
   | true =>
    refine ab ?_;refine GW.draw (.q 0 (.q 1 (.q 2 (.q 3 (.q 4 (.q 5 (.q 6 (.q 7 (.q 8 (.q 9 (.a 10 (.q 11 (.q 12 .nil))))))))))))) (by kernel_rfl) (by kernel_rfl) ?_;refine aj ?_;refine ab ?_;exact ⟨_,_,Wk.aw al,rfl,rfl⟩
   | false =>
    cases g with
    | true =>
     refine ab ?_;refine GW.draw (.q 0 (.q 1 (.q 2 (.q 3 (.q 4 (.q 5 (.q 6 (.q 7 (.q 8 (.q 9 (.a 10 (.q 11 (.q 12 .nil))))))))))))) (by kernel_rfl) (by kernel_rfl) ?_;refine aj ?_;refine bu [] (hG) ?_;refine ab ?_;exact ⟨_,_,Wk.aw al,rfl,rfl⟩
    | false =>
     refine ab ?_;refine GW.draw (.q 0 (.q 1 (.q 2 (.q 3 (.q 4 (.q 5 (.q 6 (.q 7 (.q 8 (.q 9 (.a 10 (.q 11 (.q 12 .nil))))))))))))) (by kernel_rfl) (by kernel_rfl) ?_;refine aj ?_;refine bu [] (hG) ?_;refine ab ?_;refine U [0] (QE) ?_;exact ⟨_,_,Wk.aw al,rfl,rfl⟩
  by_cases h7:kd=7
  ·subst h7
   have q2:((7:Int)==2)=false:=by decide
   have q7:((7:Int)==7)=true:=by decide
   rw [if_pos (by decide)] at he;subst he
   cases b with
   | true =>
    refine ab ?_;refine GW.draw (.q 0 (.q 1 (.q 2 (.q 3 (.q 4 (.q 5 (.q 6 (.q 7 (.q 8 (.q 9 (.a 10 (.q 11 (.q 12 .nil))))))))))))) (by kernel_rfl) (by kernel_rfl) ?_;refine aj ?_;refine ab ?_;exact ⟨_,_,Wk.aw al,rfl,rfl⟩
   | false =>
    cases g with
    | true =>
     refine ab ?_;refine GW.draw (.q 0 (.q 1 (.q 2 (.q 3 (.q 4 (.q 5 (.q 6 (.q 7 (.q 8 (.q 9 (.a 10 (.q 11 (.q 12 .nil))))))))))))) (by kernel_rfl) (by kernel_rfl) ?_;refine aj ?_;refine bu [] (hG) ?_;refine ab ?_;exact ⟨_,_,Wk.aw al,rfl,rfl⟩
    | false =>
     refine ab ?_;refine GW.draw (.q 0 (.q 1 (.q 2 (.q 3 (.q 4 (.q 5 (.q 6 (.q 7 (.q 8 (.q 9 (.a 10 (.q 11 (.q 12 .nil))))))))))))) (by kernel_rfl) (by kernel_rfl) ?_;refine aj ?_;refine bu [] (hG) ?_;refine ab ?_;refine U [0] (QE) ?_;exact ⟨_,_,Wk.aw al,rfl,rfl⟩
  rw [if_neg (by rintro (h | h);(· exact h2 h);exact h7 h)] at he
  by_cases h3:kd=3
  ·subst h3
   have q2:((3:Int)==2)=false:=by decide
   have q7:((3:Int)==7)=false:=by decide
   have q3:((3:Int)==3)=true:=by decide
   rw [if_pos (by decide)] at he
   cases b with
   | true =>
    subst he;refine ab ?_;refine GW.draw (.q 0 (.q 1 (.q 2 (.q 3 (.q 4 (.q 5 (.q 6 (.q 7 (.a 8 (.q 9 (.q 10 .nil))))))))))) (by kernel_rfl) (by kernel_rfl) ?_;refine aj ?_;refine ab ?_;refine U [0] (Ix) ?_;exact ⟨_,_,Wk.aw al,rfl,rfl⟩
   | false =>
    cases hz:decide (z < 0) with
    | true =>
     rw [if_pos (.inr (by simpa using hz))] at he;subst he;refine ab ?_;refine GW.draw (.q 0 (.q 1 (.q 2 (.q 3 (.q 4 (.q 5 (.q 6 (.q 7 (.a 8 (.q 9 (.q 10 .nil))))))))))) (by kernel_rfl) (by kernel_rfl) ?_;refine aj ?_;refine bu [] (hA) ?_;refine ab ?_;refine U [0] (Ix) ?_;exact ⟨_,_,Wk.aw al,rfl,rfl⟩
    | false =>
     rw [if_neg (by rintro (h | h);(· cases h);(· simp at hz;omega))] at he;subst he;refine ab ?_;refine GW.draw (.q 0 (.q 1 (.q 2 (.q 3 (.q 4 (.q 5 (.q 6 (.q 7 (.a 8 (.q 9 (.q 10 .nil))))))))))) (by kernel_rfl) (by kernel_rfl) ?_;refine aj ?_;refine bu [] (hA) ?_;refine ab ?_;exact ⟨_,_,Wk.aw al,rfl,rfl⟩
  by_cases h8:kd=8
  ·subst h8
   have q2:((8:Int)==2)=false:=by decide
   have q7:((8:Int)==7)=false:=by decide
   have q3:((8:Int)==3)=false:=by decide
   have q8:((8:Int)==8)=true:=by decide
   rw [if_pos (by decide)] at he
   cases b with
   | true =>
    subst he;refine ab ?_;refine GW.draw (.q 0 (.q 1 (.q 2 (.q 3 (.q 4 (.q 5 (.q 6 (.q 7 (.a 8 (.q 9 (.q 10 .nil))))))))))) (by kernel_rfl) (by kernel_rfl) ?_;refine aj ?_;refine ab ?_;refine U [0] (Ix) ?_;exact ⟨_,_,Wk.aw al,rfl,rfl⟩
   | false =>
    cases hz:decide (z < 0) with
    | true =>
     rw [if_pos (.inr (by simpa using hz))] at he;subst he;refine ab ?_;refine GW.draw (.q 0 (.q 1 (.q 2 (.q 3 (.q 4 (.q 5 (.q 6 (.q 7 (.a 8 (.q 9 (.q 10 .nil))))))))))) (by kernel_rfl) (by kernel_rfl) ?_;refine aj ?_;refine bu [] (hA) ?_;refine ab ?_;refine U [0] (Ix) ?_;exact ⟨_,_,Wk.aw al,rfl,rfl⟩
    | false =>
     rw [if_neg (by rintro (h | h);(· cases h);(· simp at hz;omega))] at he;subst he;refine ab ?_;refine GW.draw (.q 0 (.q 1 (.q 2 (.q 3 (.q 4 (.q 5 (.q 6 (.q 7 (.a 8 (.q 9 (.q 10 .nil))))))))))) (by kernel_rfl) (by kernel_rfl) ?_;refine aj ?_;refine bu [] (hA) ?_;refine ab ?_;exact ⟨_,_,Wk.aw al,rfl,rfl⟩
  rw [if_neg (by rintro (h | h);(· exact h3 h);exact h8 h)] at he
  by_cases h4:kd=4
  ·subst h4
   have q2:((4:Int)==2)=false:=by decide
   have q7:((4:Int)==7)=false:=by decide
   have q3:((4:Int)==3)=false:=by decide
   have q8:((4:Int)==8)=false:=by decide
   have q4:((4:Int)==4)=true:=by decide
   rw [if_pos rfl] at he;subst he;refine ab ?_;refine U [0,1] (hC) ?_;exact ⟨_,_,Wk.aw al,rfl,rfl⟩
  rw [if_neg h4] at he;subst he
  have q2:(kd==2)=false:=by simpa using h2
  have q7:(kd==7)=false:=by simpa using h7
  have q3:(kd==3)=false:=by simpa using h3
  have q8:(kd==8)=false:=by simpa using h8
  have q4:(kd==4)=false:=by simpa using h4
  refine ab ?_;exact ⟨_,_,Wk.aw al,rfl,rfl⟩
 ·rintro _ _ ⟨rfl,rfl⟩;clear he hC QE Ix;obtain ⟨c1,d⟩:=P;simp only at cB |-;rw [<-cB] at lX;rw [show cC p (.slice ad c.ls.length cp) c1=cC p (.slice ad c1.ls.length cp) c1 by rw [cB],<-cB];clear hL;refine ab ?_;refine GW.range (aL l).length (fun k fr Γ=>∃ ad cp c2,fr=[.loc 0 0,.aaF,.aaF,.loc 2 0,.loc 3 0,.aaF,.v (.bool d),.aaF,.aaF,.aaF,.aaF,.aaF,.aaF,.aaF,.aaF,.aaF,.aaF,.aaF,.aaF,.aaF,.aaF,.aaF,.aaF,.aaF,.aaF,.aaF,.aaF,.aaF,.aaF,.aaF,.aaF,.aaF,.aaF,.aaF,.aaF,.aaF,.aaF,.aaF,.aaF,.aaF,.aaF,.aaF,.aaF,.aaF,.aaF,.aaF,.aaF,.aaF,.aaF,.aaF,.aaF,.aaF,.aaF,.aaF,.aaF,.aaF,.aaF,.aaF,.aaF,.aaF,.aaF,.aaF,.aaF,.aaF,.sl 6 (aL l),.v (ii ((aL l).length:Int)),.v (ii (k:Nat)),.aaF,.aaF,.aaF,.aaF,.aaF,.aaF,.aaF,.aaF,.aaF,.aaF,.aaF,.aaF,.aaF,.aaF,.aaF,.aaF,.aaF,.aaF,.aaF,.aaF,.aaF,.aaF,.aaF,.aaF,.aaF,.aaF,.aaF,.aaF,.aaF,.aaF,.aaF,.aaF,.aaF,.aaF,.aaF,.aaF,.aaF,.aaF,.aaF,.aaF,.aaF,.aaF,.aaF]/\Γ=[.box 133 (cC p (.slice ad c2.ls.length cp) c2),.vech 9 1 (bV c2.ls) (.slice ad c2.ls.length cp),.box 94 (cT (.mk n l)),.box 91 (ax n)]/\c2=(if d=true then gO p (l.take k) c1 else c1)) ?_ ae ?_ ?_ ?_
  ·exact ⟨_,_,Wk.aw al,ad,cp,c1,rfl,rfl,by cases d <;> simp [gO]⟩
  ·rintro k _ _ ⟨ad,cp,c2,rfl,rfl,_⟩;exact ⟨rfl,rfl,rfl⟩
  ·rintro k _ _ aq ⟨ad,cp,c2,rfl,rfl,jt⟩;rw [eP] at aq;obtain ⟨u,hu⟩:∃ u,l[k]?=some u:=⟨l[k],by simp [aq]⟩;have hr:=cJ hu;have cI:=tC hu
   cases d with
   | false =>
    refine ab ?_;exact ⟨rfl,rfl,_,_,(Wk.cut (n:=4) (Nat.le_of_ble_eq_true rfl) rfl).trans (Wk.aw al),ad,cp,c2,rfl,rfl,jt⟩
   | true =>
    rw [if_pos rfl] at jt;have hlen:=wz p (l.take k) c1;rw [<-jt] at hlen;have hi:=ih u ae c2 ad cp ae;unfold cO at hi;rw [if_pos rfl,Nu p hu,<-jt];refine ab ?_;refine bJ [0,1] (hi) ?_;rintro _ _ ⟨rfl,pW,pY,rfl⟩;refine cj ?_;refine ab ?_;exact ⟨rfl,rfl,_,_,(Wk.cut (n:=4) (Nat.le_of_ble_eq_true rfl) rfl).trans (Wk.aw al),pW,pY,_,rfl,rfl,rfl⟩
  ·rintro _ _ ⟨ad,cp,c2,rfl,rfl,jt⟩;rw [eP,take_length] at jt;rw [<-jt]
   have hlen:c2.ls.length<=8388608:=by
    rw [jt];split
    ·have:=wz p l c1;omega
    ·omega
   clear jt ih;refine aD ?_;have hL:=iO c2.ls n.s ae;have QR:=vG c2.ls;have Iw:=gJ p (.slice ad c2.ls.length cp) c2 21 n.at_;have WO:=gJ p (.slice ad c2.ls.length cp) c2 26 n.at_;have l21:=c2.nq 21 n.at_;have l26:=c2.nq 26 n.at_
   cases hv:(n.kind != 13) with
   | true =>
    have e:lr c2 n=c2:=by unfold lr;exact if_pos (by simpa using hv)
    rw [e];refine ab ?_;refine cK ?_;exact ⟨rfl,ad,cp,rfl⟩
   | false =>
    have BH:¬ n.kind≠13:=by simpa using hv
    unfold cC at Iw WO
    cases hb:c2.ls.contains n.s with
    | true =>
     rw [hb] at hL
     have e:lr c2 n=⟨(c2.fail 21 n.at_).ls++[n.s],(c2.fail 21 n.at_).code,(c2.fail 21 n.at_).at_⟩:=by unfold lr;rw [if_neg BH];exact if_pos hb
     rw [e];generalize c2.fail 21 n.at_=y at *;unfold cC;refine ab ?_;refine GW.draw (.q 0 (.q 1 (.q 2 (.q 3 (.q 4 (.q 5 (.a 6 .nil))))))) (by kernel_rfl) (by kernel_rfl) ?_;refine aj ?_;refine OA rfl rfl (GL.borrow hL (fun B K β w l hI hF=>gC (A:=[_]) (C:=[_,_]) hI hF rfl rfl) ?_);refine dD ?_;refine aj ?_;refine ab ?_;refine U [0] (Iw) ?_;refine GW.draw (.q 0 (.q 1 (.q 2 (.q 3 (.q 4 (.q 5 (.q 6 (.a 7 (.a 8 (.q 9 (.q 10 (.a 11 .nil)))))))))))) (by kernel_rfl) (by kernel_rfl) ?_;refine aj ?_;refine eC ?_;refine aj ?_;refine OA rfl rfl (GL.qh 1 (news:=[[.v (sv n.s)]]) rfl rfl rfl (by first | rfl | assumption) rfl rfl (by refine ⟨?_,?_⟩;(· show _+1<=_;omega);(· show (_+1) * _<=_;omega)) ?_);intro sr sy;refine dD ?_;refine aj ?_;refine ab ?_;refine cK ?_;exact ⟨rfl,sr,sy,by simp [cO,cC,bV,l21]⟩
    | false =>
     rw [hb] at hL
     cases h40:((c2.ls.length:Int)==40) with
     | true =>
      have e:lr c2 n=⟨(c2.fail 26 n.at_).ls++[n.s],(c2.fail 26 n.at_).code,(c2.fail 26 n.at_).at_⟩:=by
       unfold lr;rw [if_neg BH,if_neg (by rw [hb];decide)];exact if_pos (by rw [beq_iff_eq] at h40;omega)
      rw [e];generalize c2.fail 26 n.at_=y at *;unfold cC;refine ab ?_;refine GW.draw (.q 0 (.q 1 (.q 2 (.q 3 (.q 4 (.q 5 (.a 6 .nil))))))) (by kernel_rfl) (by kernel_rfl) ?_;refine aj ?_;refine OA rfl rfl (GL.borrow hL (fun B K β w l hI hF=>gC (A:=[_]) (C:=[_,_]) hI hF rfl rfl) ?_);refine dD ?_;refine aj ?_;refine ab ?_;refine U [0] (WO) ?_;refine GW.draw (.q 0 (.q 1 (.q 2 (.q 3 (.q 4 (.q 5 (.q 6 (.a 7 (.a 8 (.q 9 (.q 10 (.a 11 .nil)))))))))))) (by kernel_rfl) (by kernel_rfl) ?_;refine aj ?_;refine eC ?_;refine aj ?_;refine OA rfl rfl (GL.qh 1 (news:=[[.v (sv n.s)]]) rfl rfl rfl (by first | rfl | assumption) rfl rfl (by refine ⟨?_,?_⟩;(· show _+1<=_;omega);(· show (_+1) * _<=_;omega)) ?_);intro sr sy;refine dD ?_;refine aj ?_;refine ab ?_;refine cK ?_;exact ⟨rfl,sr,sy,by simp [cO,cC,bV,l26]⟩
     | false =>
      have e:lr c2 n=⟨c2.ls++[n.s],c2.code,c2.at_⟩:=by
       unfold lr;rw [if_neg BH,if_neg (by rw [hb];decide)];exact if_neg (by rw [beq_eq_false_iff_ne] at h40;omega)
      rw [e];unfold cC;refine ab ?_;refine GW.draw (.q 0 (.q 1 (.q 2 (.q 3 (.q 4 (.q 5 (.a 6 .nil))))))) (by kernel_rfl) (by kernel_rfl) ?_;refine aj ?_;refine OA rfl rfl (GL.borrow hL (fun B K β w l hI hF=>gC (A:=[_]) (C:=[_,_]) hI hF rfl rfl) ?_);refine dD ?_;refine aj ?_;refine ab ?_;refine GW.draw (.q 0 (.q 1 (.q 2 (.q 3 (.q 4 (.q 5 (.q 6 (.a 7 (.a 8 (.q 9 (.q 10 (.a 11 .nil)))))))))))) (by kernel_rfl) (by kernel_rfl) ?_;refine aj ?_;refine eC ?_;refine aj ?_;refine OA rfl rfl (GL.qh 1 (news:=[[.v (sv n.s)]]) rfl rfl rfl (by first | rfl | assumption) rfl rfl (by refine ⟨?_,?_⟩;(· show _+1<=_;omega);(· show (_+1) * _<=_;omega)) ?_);intro sr sy;refine dD ?_;refine aj ?_;refine ab ?_;refine cK ?_;exact ⟨rfl,sr,sy,by simp [cO,cC,bV]⟩
end Go.Xg
namespace Go.Xg
open Go.RowKit Go.Xw Go.Proofs
open Go.Xp (Nd T Ar aK ay)
open Go.Sp (Src)
open Go.Im
attribute [local irreducible] GW GL GO YG GC GA aS aW
theorem Cy (p:Src) (h:Value) (k e:Int):GF Tryz.prog 153 [.loc 0 0,.v (ii e),.v (ii 0)] [.box 133 (cC p h ⟨[],k,0⟩)] (.tup []) [.box 133 (cC p h ⟨[],fE k e,0⟩)]:=by
 have:=gJ p h ⟨[],k,0⟩ e 0
 rwa [show (SS.fail ⟨[],k,0⟩ e 0)=⟨[],fE k e,0⟩ by unfold SS.fail fE;by_cases hk:k=0 <;> simp [hk]] at this
theorem F1 (p:Src) (h:Value) (k:Int) (iT:p.arrays.length<=1048576) (cI:∀ a∈p.arrays,0<=a.size/\a.size<=2147483648)
  (rest:(p.arrays.all fun a=>!lP a)=true->GF Tryz.prog 131 [.loc 0 0] [.box 133 (cC p h ⟨[],k,0⟩)] (.tup []) [.box 133 (cC p h ⟨[],qB p k,0⟩)]) :
  GF Tryz.prog 131 [.loc 0 0] [.box 133 (cC p h ⟨[],k,0⟩)] (.tup []) [.box 133 (cC p h ⟨[],qB p k,0⟩)]:=by
 cases tS:(p.arrays.all fun a=>!lP a) with
 | true=>exact rest tS
 | false =>
 have dO:(p.arrays.map aB).length=p.arrays.length:=by simp
 have hb:=uy cI;have xB:=Cy p h k 26
 have Fs:p.arrays.any lP=true:=by
  cases h0:p.arrays.any lP with
  | true=>rfl
  | false =>
   rw [any_eq_false] at h0;rw [List.all_eq_false] at tS;obtain ⟨x,hx,h1⟩:=tS;have:=h0 x hx;simp at h1;rw [h1] at this;exact absurd rfl this
 rw [show qB p k=fE k 26 by unfold qB;exact if_pos Fs];unfold cC at xB |-;refine ai Tryz.func131 Tryz.ntmps131 ?_;refine GW.range (p.arrays.map aB).length (fun k' fr Γ=>fr=[.loc 0 0,.aaF,.v (ii (dx (p.arrays.take k'))),.aaF,.aaF,.aaF,.aaF,.aaF,.aaF,.aaF,.aaF,.aaF,.sl 2 (p.arrays.map aB),.v (ii ((p.arrays.map aB).length:Int)),.v (ii (k':Nat)),.aaF,.aaF,.aaF,.aaF,.aaF,.aaF,.aaF,.aaF,.aaF,.aaF,.aaF,.aaF,.aaF,.aaF,.aaF,.aaF,.aaF,.aaF,.aaF,.aaF,.aaF,.aaF,.aaF,.aaF,.aaF,.aaF,.aaF,.aaF,.aaF,.aaF,.aaF,.aaF,.aaF,.aaF,.aaF,.aaF,.aaF,.aaF,.aaF,.aaF,.aaF,.aaF,.aaF,.aaF,.aaF,.aaF,.aaF,.aaF,.aaF,.aaF,.aaF,.aaF,.aaF,.aaF,.aaF,.aaF,.aaF,.aaF,.aaF,.aaF,.aaF,.aaF,.aaF,.aaF,.aaF,.aaF,.aaF,.aaF,.aaF,.aaF,.aaF,.aaF,.aaF,.aaF,.aaF,.aaF,.aaF,.aaF,.aaF]/\Γ=[.box 133 [strs p.globals,.sl 2 (p.arrays.map aB),.sl 3 (p.fns.map au),.sl 5 (p.nodes.map ax),.v h,.v (ii k),.v (ii 0)]]/\(p.arrays.take k').all (fun a=>!lP a)=true) ?_ ae ?_ ?_ ?_
 ·exact ⟨_,_,Wk.aw al,rfl,rfl,rfl⟩
 ·rintro k' _ _ ⟨rfl,rfl,_⟩;exact ⟨rfl,rfl,rfl⟩
 ·rintro k' _ _ aq ⟨rfl,rfl,aO⟩;rw [dO] at aq;obtain ⟨x,hx⟩:∃ x,p.arrays[k']?=some x:=⟨p.arrays[k'],by simp [aq]⟩
  have hr:(p.arrays.map aB)[k']?=some (aB x):=by rw [getElem?_map,hx];rfl
  have bq:=mH (f:=lP) hx;have gH:=rM hx;have ef:=hb k';have oT:=cI x (mem_of_getElem? hx);have hd:lP x=(decide (x.size < 1) || decide (8000 < x.size)):=rfl;unfold aB at hr
  cases h1:decide (x.size < 1) with
  | true =>
   refine ab ?_;refine U [0] (xB) ?_;exact fP
  | false =>
   cases h2:decide (8000 < x.size) with
   | true =>
    refine ab ?_;refine U [0] (xB) ?_;exact fP
   | false =>
    rw [gH];generalize dx (p.arrays.take k')=c at *;refine ab ?_;exact ⟨rfl,rfl,_,_,(Wk.cut (n:=1) (Nat.le_refl _) rfl).trans (Wk.aw al),rfl,rfl,by rw [bq,aO,hd,h1,h2];rfl⟩
 ·rintro _ _ ⟨rfl,rfl,aO⟩;rw [dO,take_length] at aO;rw [aO] at tS;cases tS
end Go.Xg
namespace Go.Im
open Go.Xp Go.Sp
theorem RW (k e:Int) (he:e≠0):fE (fE k e) e=fE k e:=by unfold fE;by_cases h:k=0 <;> simp [h,he]
end Go.Im
namespace Go.Xg
open Go.RowKit Go.Xw Go.Proofs
open Go.Xp (Nd T Ar aK ay)
open Go.Sp (Src)
open Go.Im
attribute [local irreducible] GW GL GO YG GC GA aS aW
theorem Ee (p:Src) (h:Value) (k:Int) (iT:p.arrays.length<=1048576) (fG:p.fns.length<=1048576) (cI:∀ a∈p.arrays,0<=a.size/\a.size<=2147483648) (tS:(p.arrays.all fun a=>!lP a)=true) :
  GF Tryz.prog 131 [.loc 0 0] [.box 133 (cC p h ⟨[],k,0⟩)] (.tup []) [.box 133 (cC p h ⟨[],qB p k,0⟩)]:=by
 have dO:(p.arrays.map aB).length=p.arrays.length:=by simp
 have iU:(p.fns.map au).length=p.fns.length:=by simp
 have ju:(p.globals.map fun s=>[GV.v (sv s)]).length=p.globals.length:=by simp
 have hb:=uy cI
 have Fs:p.arrays.any lP=false:=by
  rw [any_eq_false];rw [List.all_eq_true] at tS;intro x hx;simpa using tS x hx
 have xB:=Cy p h;unfold cC at xB |-;refine ai Tryz.func131 Tryz.ntmps131 ?_;refine GW.range (p.arrays.map aB).length (fun k' fr Γ=>fr=[.loc 0 0,.aaF,.v (ii (dx (p.arrays.take k'))),.aaF,.aaF,.aaF,.aaF,.aaF,.aaF,.aaF,.aaF,.aaF,.sl 2 (p.arrays.map aB),.v (ii ((p.arrays.map aB).length:Int)),.v (ii (k':Nat)),.aaF,.aaF,.aaF,.aaF,.aaF,.aaF,.aaF,.aaF,.aaF,.aaF,.aaF,.aaF,.aaF,.aaF,.aaF,.aaF,.aaF,.aaF,.aaF,.aaF,.aaF,.aaF,.aaF,.aaF,.aaF,.aaF,.aaF,.aaF,.aaF,.aaF,.aaF,.aaF,.aaF,.aaF,.aaF,.aaF,.aaF,.aaF,.aaF,.aaF,.aaF,.aaF,.aaF,.aaF,.aaF,.aaF,.aaF,.aaF,.aaF,.aaF,.aaF,.aaF,.aaF,.aaF,.aaF,.aaF,.aaF,.aaF,.aaF,.aaF,.aaF,.aaF,.aaF,.aaF,.aaF,.aaF,.aaF,.aaF,.aaF,.aaF,.aaF,.aaF,.aaF,.aaF,.aaF,.aaF,.aaF,.aaF,.aaF]/\Γ=[.box 133 [strs p.globals,.sl 2 (p.arrays.map aB),.sl 3 (p.fns.map au),.sl 5 (p.nodes.map ax),.v h,.v (ii k),.v (ii 0)]]) ?_ ae ?_ ?_ ?_
 ·exact ⟨_,_,Wk.aw al,rfl,rfl⟩
 ·rintro k' _ _ ⟨rfl,rfl⟩;exact ⟨rfl,rfl,rfl⟩
 ·rintro k' _ _ aq ⟨rfl,rfl⟩;rw [dO] at aq;obtain ⟨x,hx⟩:∃ x,p.arrays[k']?=some x:=⟨p.arrays[k'],by simp [aq]⟩
  have hr:(p.arrays.map aB)[k']?=some (aB x):=by rw [getElem?_map,hx];rfl
  have gH:=rM hx;have ef:=hb k';have oT:=cI x (mem_of_getElem? hx)
  have hd:lP x=false:=by
   rw [any_eq_false] at Fs;have:=Fs x (mem_of_getElem? hx);simpa using this
  unfold lP at hd;rw [Bool.or_eq_false_iff] at hd;obtain ⟨h1,h2⟩:=hd;have h2:decide (8000 < x.size)=false:=h2;unfold aB at hr;rw [gH];generalize dx (p.arrays.take k')=c at *;refine ab ?_;exact ⟨rfl,rfl,_,_,(Wk.cut (n:=1) (Nat.le_refl _) rfl).trans (Wk.aw al),rfl,rfl⟩
 ·rintro _ _ ⟨rfl,rfl⟩;rw [dO,take_length];refine aD ?_;refine GW.seq ?_;have e1:decide (p.fns.length > 40)=decide ((40:Int) < ((p.fns.map au).length:Int)):=decide_eq_decide.2 (by rw [iU];omega);have e2:decide (p.globals.length > 29)=decide ((29:Int) < ((p.globals.map fun s=>[GV.v (sv s)]).length:Int)):=decide_eq_decide.2 ae
  have XN:sw p=((decide ((40:Int) < ((p.fns.map au).length:Int)) || decide ((29:Int) < ((p.globals.map fun s=>[GV.v (sv s)]).length:Int))) || decide ((8000:Int) < dx p.arrays)):=by unfold sw;rw [e1,e2]
  refine GW.join (fun fr Γ=>fr=[.loc 0 0,.aaF,.aaF,.aaF,.aaF,.aaF,.aaF,.aaF,.aaF,.aaF,.aaF,.aaF,.aaF,.aaF,.aaF,.aaF,.aaF,.aaF,.aaF,.aaF,.aaF,.aaF,.aaF,.aaF,.aaF,.aaF,.aaF,.aaF,.aaF,.aaF,.aaF,.aaF,.aaF,.aaF,.aaF,.aaF,.aaF,.aaF,.aaF,.aaF,.aaF,.aaF,.aaF,.aaF,.aaF,.aaF,.aaF,.aaF,.aaF,.aaF,.aaF,.aaF,.aaF,.aaF,.aaF,.aaF,.aaF,.aaF,.aaF,.aaF,.aaF,.aaF,.aaF,.aaF,.aaF,.aaF,.aaF,.aaF,.aaF,.aaF,.aaF,.aaF,.aaF,.aaF,.aaF,.aaF,.aaF,.aaF,.aaF,.aaF,.aaF,.aaF,.aaF,.aaF,.aaF,.aaF,.aaF,.aaF,.aaF,.aaF,.aaF,.aaF,.aaF,.aaF]/\Γ=[.box 133 [strs p.globals,.sl 2 (p.arrays.map aB),.sl 3 (p.fns.map au),.sl 5 (p.nodes.map ax),.v h,.v (ii (if sw p=true then fE k 26 else k)),.v (ii 0)]]) ?_ ?_
  ·rw [XN];have J2:=xB k 26;generalize dx p.arrays=c at *
   cases h1:decide ((40:Int) < ((p.fns.map au).length:Int))
   all_goals cases h2:decide ((29:Int) < ((p.globals.map fun s=>[GV.v (sv s)]).length:Int))
   all_goals cases h3:decide ((8000:Int) < c)
   all_goals
    refine ab ?_
    first
     | exact ⟨_,_,Wk.aw al,rfl,rfl⟩
     | (refine gB [0] (J2) ?_;refine ab ?_;exact ⟨_,_,Wk.aw al,rfl,rfl⟩)
  ·rintro _ _ ⟨rfl,rfl⟩;generalize tW:(if sw p=true then fE k 26 else k)=k1
   have VW:∀ j:Nat,∀ x:Go.Sp.Fn,p.fns[j]?=some x->(p.fns.take (j+1)).any (fun f=>decide (f.params.length > 40))=((p.fns.take j).any (fun f=>decide (f.params.length > 40)) || decide (x.params.length > 40)):=fun j x hx=>by
    rw [take_add_one,hx,List.any_append];simp
   refine ab ?_;refine GW.range (p.fns.map au).length (fun j fr Γ=>∃ kk,fr=[.loc 0 0,.aaF,.aaF,.aaF,.aaF,.aaF,.aaF,.aaF,.aaF,.aaF,.aaF,.aaF,.aaF,.aaF,.aaF,.aaF,.aaF,.aaF,.aaF,.aaF,.aaF,.aaF,.aaF,.aaF,.aaF,.aaF,.aaF,.aaF,.aaF,.aaF,.aaF,.aaF,.aaF,.aaF,.aaF,.aaF,.aaF,.aaF,.aaF,.aaF,.aaF,.aaF,.aaF,.aaF,.aaF,.aaF,.aaF,.aaF,.aaF,.aaF,.aaF,.aaF,.aaF,.aaF,.aaF,.aaF,.aaF,.aaF,.aaF,.sl 3 (p.fns.map au),.v (ii ((p.fns.map au).length:Int)),.v (ii (j:Nat)),.aaF,.aaF,.aaF,.aaF,.aaF,.aaF,.aaF,.aaF,.aaF,.aaF,.aaF,.aaF,.aaF,.aaF,.aaF,.aaF,.aaF,.aaF,.aaF,.aaF,.aaF,.aaF,.aaF,.aaF,.aaF,.aaF,.aaF,.aaF,.aaF,.aaF,.aaF,.aaF]/\Γ=[.box 133 [strs p.globals,.sl 2 (p.arrays.map aB),.sl 3 (p.fns.map au),.sl 5 (p.nodes.map ax),.v h,.v (ii kk),.v (ii 0)]]/\kk=(if (p.fns.take j).any (fun f=>decide (f.params.length > 40))=true then fE k1 26 else k1)) ?_ ae ?_ ?_ ?_
   ·exact ⟨_,_,Wk.aw al,k1,rfl,rfl,by simp⟩
   ·rintro j _ _ ⟨kk,rfl,rfl,_⟩;exact ⟨rfl,rfl,rfl⟩
   ·rintro j _ _ aq ⟨kk,rfl,rfl,la⟩;rw [iU] at aq;obtain ⟨x,hx⟩:∃ x,p.fns[j]?=some x:=⟨p.fns[j],by simp [aq]⟩
    have hr:(p.fns.map au)[j]?=some (au x):=by rw [getElem?_map,hx];rfl
    have cB:(x.params.map fun s=>[GV.v (sv s)]).length=x.params.length:=by simp
    have iY:=VW j x hx;have hd:decide (x.params.length > 40)=decide ((40:Int) < ((x.params.map fun s=>[GV.v (sv s)]).length:Int)):=decide_eq_decide.2 ae;have J2:=xB kk 26;rw [iY,hd];unfold au at hr
    cases h1:decide ((40:Int) < ((x.params.map fun s=>[GV.v (sv s)]).length:Int)) with
    | true =>
     have e:fE kk 26=fE k1 26:=by rw [la];split;(· exact RW _ _ (by decide));rfl
     rw [e] at J2;refine ab ?_;refine U [0] (J2) ?_;exact ⟨rfl,rfl,_,_,(Wk.cut (n:=1) (Nat.le_refl _) rfl).trans (Wk.aw al),_,rfl,rfl,by simp⟩
    | false =>
     refine ab ?_;exact ⟨rfl,rfl,_,_,(Wk.cut (n:=1) (Nat.le_refl _) rfl).trans (Wk.aw al),kk,rfl,rfl,by rw [la,Bool.or_false]⟩
   ·rintro _ _ ⟨kk,rfl,rfl,la⟩;rw [iU,take_length] at la
    have hs:qB p k=(if jn p=true then fE kk 25 else kk):=by
     unfold qB;rw [if_neg (by rw [Fs];decide),tW,<-la]
    rw [hs];refine aD ?_;have TD:=xB kk 25;have hM:=CF p vk ae;unfold cH at hM;clear hs la tW
    cases hx:p.fns.findIdx? (fun f:Go.Sp.Fn=>f.name==vk) with
    | none =>
     rw [hx] at hM
     have hd:decide ((-1:Int) < 0)=true:=by decide
     simp only at hM;rw [show (if jn p=true then fE kk 25 else kk)=fE kk 25 from if_pos (by unfold jn;rw [hx])];refine ab ?_;refine U [] (hM) ?_;refine U [0] (TD) ?_;exact fP
    | some i =>
     rw [hx] at hM;have hi:i < p.fns.length:=(List.findIdx?_eq_some_iff_getElem.1 hx).1;obtain ⟨f,hf⟩:∃ f,p.fns[i]?=some f:=⟨p.fns[i],by simp [hi]⟩
     have hr:(p.fns.map au)[i]?=some (au f):=by rw [getElem?_map,hf];rfl
     have cB:(f.params.map fun s=>[GV.v (sv s)]).length=f.params.length:=by simp
     have hd:decide (((i:Nat):Int) < 0)=false:=by simp
     have ke:decide (lg p i > 0)=decide ((0:Int) < ((f.params.map fun s=>[GV.v (sv s)]).length:Int)):=by
      unfold lg;rw [hf];exact decide_eq_decide.2 (by simp only;omega)
     simp only at hM
     have p8:jn p=decide (lg p i > 0):=by unfold jn;rw [hx]
     rw [ke] at p8;unfold au at hr
     cases h1:decide ((0:Int) < ((f.params.map fun s=>[GV.v (sv s)]).length:Int)) with
     | true =>
      rw [show (if jn p=true then fE kk 25 else kk)=fE kk 25 from if_pos (by rw [p8,h1])];refine ab ?_;refine U [] (hM) ?_;refine U [0] (TD) ?_;exact fP
     | false =>
      rw [show (if jn p=true then fE kk 25 else kk)=kk from if_neg (by rw [p8,h1];decide)];refine ab ?_;refine U [] (hM) ?_;exact fP
end Go.Xg
namespace Go.Im
open Go.Xp Go.Sp
theorem OU (p:Src) (l:List T) (c:SS):mK p [] l c=c:=by unfold mK;rfl
end Go.Im
namespace Go.Xg
open Go.RowKit Go.Xw Go.Proofs
open Go.Xp (Nd T Ar aK ay)
open Go.Sp (Src)
open Go.Im
attribute [local irreducible] GW GL GO YG GC GA aS aW
theorem Lg (p:Src) (hF:GF Tryz.prog 129 [.agg (ar p)] [] (.v (.bool false)) []):GF Tryz.prog 97 [.agg (ar p)] [] (.tup [.v (ii 20),.v (ii 0)]) []:=by
 refine ai Tryz.func97 Tryz.ntmps97 ?_;refine U [] (hF) ?_;exact lR
theorem Jy (p:Src) (l:List T) (c1 c2:SS) (iU:p.fns.length=l.length) (fG:p.fns.length<=1048576) (iT:p.arrays.length<=1099511627776) (ju:p.globals.length<=1099511627776)
  (xQ:∀ f∈p.fns,f.params.length<=1048576) (cI:∀ t∈l,aK t<=1048576)
  (hF:GF Tryz.prog 129 [.agg (ar p)] [] (.v (.bool true)) [])
  (hN:GF Tryz.prog 130 [.loc 0 0] [.box 133 (cC p (.slice none 0 0) ⟨[],0,0⟩)] (.tup []) [.box 133 (cC p (.slice none 0 0) c1)])
  (hS:GF Tryz.prog 131 [.loc 0 0] [.box 133 (cC p (.slice none 0 0) c1)] (.tup []) [.box 133 (cC p (.slice none 0 0) c2)])
  (pD:∀ (i:Nat) (f:Go.Sp.Fn) (t:T),p.fns[i]?=some f->l[i]?=some t->GF Tryz.prog 99 [.agg (ar p),.v (ii f.body)] [] (.agg (cT t)) []) :
  GF Tryz.prog 97 [.agg (ar p)] [] (.tup [.v (ii (mK p p.fns l c2).code),.v (ii (mK p p.fns l c2).at_)]) []:=by
 have iV:(p.fns.map au).length=p.fns.length:=by simp
 unfold cC at hN hS;refine ai Tryz.func97 Tryz.ntmps97 ?_;refine U [] (hF) ?_;refine U [1] (hN) ?_;refine U [1] (hS) ?_;refine GW.range (p.fns.map au).length (fun k fr Γ=>∃ h c,fr=[.aaF,.loc 0 0,.aaF,.aaF,.loc 1 0,.aaF,.aaF,.aaF,.aaF,.aaF,.aaF,.aaF,.aaF,.aaF,.aaF,.aaF,.aaF,.aaF,.sl 3 (p.fns.map au),.v (ii ((p.fns.map au).length:Int)),.v (ii (k:Nat)),.aaF,.aaF,.aaF,.aaF,.aaF,.aaF,.aaF,.aaF,.aaF,.aaF,.aaF,.aaF,.aaF,.aaF,.aaF,.aaF,.aaF,.aaF,.aaF,.aaF,.aaF,.aaF,.aaF,.aaF,.aaF,.aaF]/\Γ=[.box 34 (ar p),.box 133 (cC p h c)]/\mK p p.fns l c2=mK p (p.fns.drop k) (l.drop k) c) ?_ ae ?_ ?_ ?_
 ·exact ⟨_,_,Wk.aw al,_,c2,rfl,rfl,rfl⟩
 ·rintro k _ _ ⟨h,c,rfl,rfl,_⟩;exact ⟨rfl,rfl,rfl⟩
 ·rintro k _ _ aq ⟨h,c,rfl,rfl,he⟩;rw [iV] at aq;obtain ⟨f,hf⟩:∃ f,p.fns[k]?=some f:=⟨p.fns[k],by simp [aq]⟩;obtain ⟨t,ht⟩:∃ t,l[k]?=some t:=⟨l[k]'ae,getElem?_eq_getElem _⟩
  have hr:(p.fns.map au)[k]?=some (au f):=by rw [getElem?_map,hf];rfl
  have MH:p.fns.drop k=f::p.fns.drop (k+1):=by rw [List.drop_eq_getElem_cons aq];rw [getElem?_eq_getElem aq] at hf;rw [Option.some.inj hf]
  have dc:l.drop k=t::l.drop (k+1):=by rw [List.drop_eq_getElem_cons ae];rw [getElem?_eq_getElem ae] at ht;rw [Option.some.inj ht]
  have hp:=xQ f (mem_of_getElem? hf);have hz:=cI t (mem_of_getElem? ht);have Ui:=pD k f t hf ht;have hP:=Hz p h c f hp;rw [MH,dc,mK] at he
  cases hc:(c.code==0) with
  | false =>
   rw [if_neg (by simpa using hc)] at he;unfold cC au at *;refine ab ?_;exact ⟨rfl,rfl,_,_,(Wk.cut (n:=2) (Nat.zero_le _) rfl).trans (Wk.aw al),h,c,rfl,rfl,he⟩
  | true =>
   rw [if_pos (by simpa using hc)] at he
   have WT:=fun ad cp=>Nc p iT ae ju _ t (Nat.le_refl _) (pL f c) ad cp (by show f.params.length+_<=_;omega)
   rw [he];generalize mC p t (pL f c)=c3 at *;unfold cO at WT;unfold au at hr hP;rw [show cC p h c=[strs p.globals,.sl 2 (p.arrays.map aB),.sl 3 (p.fns.map au),.sl 5 (p.nodes.map ax),.v h,.v (ii c.code),.v (ii c.at_)] from rfl] at *;refine ab ?_;refine bJ [1] (hP) ?_;rintro _ _ ⟨rfl,ad,cp,rfl⟩;refine cj ?_;refine ab ?_;refine U [] (Ui) ?_;refine bJ [1,3] (WT ad cp) ?_;rintro _ _ ⟨rfl,pW,pY,rfl⟩;refine cj ?_;refine ab ?_;exact ⟨rfl,rfl,_,_,(Wk.cut (n:=2) (Nat.zero_le _) rfl).trans (Wk.aw al),_,c3,rfl,rfl,rfl⟩
 ·rintro _ _ ⟨h,c,rfl,rfl,he⟩;rw [iV,List.drop_length,OU] at he;rw [he];unfold cC;refine aD ?_;refine ab ?_;refine GW.draw (.q 0 (.q 1 (.q 2 (.q 3 (.q 4 (.q 5 (.q 6 (.q 7 (.q 8 (.q 9 .nil)))))))))) (by kernel_rfl) (by kernel_rfl) ?_;refine aj ?_;exact qF
end Go.Xg
namespace Go.Xg
open Go.RowKit Go.Xw Go.Proofs
open Go.Xp (Nd T Ar aK ay b7)
open Go.Sp (Src)
open Go.Im
attribute [local irreducible] GW GL GO YG GC GA aS aW
end Go.Xg
namespace Go.Xg
open Go.RowKit Go.Xw Go.Proofs
section
variable {P:Program} {m:Nat} {ops:Array Oper} {Q:dP} {rest:List Oper} {fr:List GV} {Γ:List Ob}
theorem N6 {o:Oper} {a:Act} {next next':Act->World->Prop} {Q Q':Exit->Act->World->Prop} (hn:∀ a w,next a w->next' a w) (hq:∀ e a w,Q e a w->Q' e a w):∀ r,o.upon P a next Q r->o.upon P a next' Q' r:=by
 have hl:LetsOut Q->LetsOut Q':=fun ⟨a,w,h⟩=>⟨a,w,hq _ _ _ h⟩
 intro r h;unfold Oper.upon at h |-;split at h
 ·exact hn _ _ h
 ·exact hn _ _ h
 ·exact hn _ _ h
 ·refine Calls.mono h fun e w' he=>?_
  cases e with
  | returned v=>exact hn _ _ he
  | panicked ch=>exact hq _ _ _ he
  | outgrown=>exact hl he
 ·exact Rows.mono h fun v w' hv=>hn _ _ hv
 ·exact hq _ _ _ h
 ·exact h
theorem zS {Q Q':Exit->Act->World->Prop} (hq:∀ e a w,Q e a w->Q' e a w):∀ (l:List Oper) (a:Act) (w:World),wpList P ops Q l a w->wpList P ops Q' l a w
 | [],a,w,h=>hq _ _ _ h
 | o::l,a,w,h=>by
  have ih:=zS hq l;unfold wpList at h |-;split at h
  ·rename_i hw;rw [if_pos hw]
   rcases h with h | ⟨h1,h2⟩
   ·exact .inl (N6 ih hq _ h)
   ·exact .inr ⟨h1,by obtain ⟨a,w,h⟩:=h2;exact ⟨a,w,hq _ _ _ h⟩⟩
  ·rename_i hw;rw [if_neg hw];exact ih _ _ h
theorem GL.mono {Q':dP} (h:GL P m ops Q rest fr Γ) (hq:∀ e fr Γ,Q e fr Γ->Q' e fr Γ):GL P m ops Q' rest fr Γ:=fun B K β w l hm hI hF =>
 zS (fun e a w ⟨l,ha,K,β,fr,Γ,hI,hF,q⟩=>⟨l,ha,K,β,fr,Γ,hI,hF,hq _ _ _ q⟩) _ _ _ (h B K β w l hm hI hF)
theorem GL.V3 {z y:Code} (K:List GV->List Ob->Prop) (h1:GL P m ops (aS (GW P m z (aS (zh m K) Q)) Q) rest fr Γ) (h2:∀ fr Γ,K fr Γ->GW P m y Q fr Γ):GL P m ops (aS (GW P m z (aS (GW P m y Q) Q)) (aS (GW P m y Q) Q)) rest fr Γ:=by
 refine h1.mono fun e fr Γ hq=>?_
 cases e with
 | normal=>exact GW.join K hq h2
 | _=>exact hq
theorem GL.wc {t i n E k:Nat} {rows:List (List GV)} (ht:cq fr t=.vec i n) (gh:jj fr t=true) (br:Γ[i]?=some (.vec E k 0 rows)) (hn:rows.length=n)
  (h:∀ a c,GL P m ops Q rest (bj fr t (.v (.slice a n c))) (oset Γ i (.vech E k rows (.slice a n c)))):GL P m ops Q rest fr Γ:=fun B K β w l hm hI hF=>by
 subst hn;obtain ⟨a,c,hb,bd⟩:=hI.wc br
 have hv:nth l t=.slice a rows.length c:=by
  have:=hF.nth t;rw [ht] at this;generalize nth l t=x at this
  cases this with
  | vec i n a' c' h =>
   obtain ⟨h0,m0,e1,_,e3⟩:=h;rw [hb] at e1;cases e1;exact e3 rfl
 have:=hF.eK t (Rel.v (K:=K) (β:=β) (.slice a rows.length c));rw [<-hv,A6 (lY hF gh),hv] at this;exact h a c B K β w l hm bd this
end
end Go.Xg
namespace Go.Im
open Go.Xp Go.Sp
def IV (x y:Int):Bool:=decide (x<=y)
structure YA (d:Array Int) (m:Nat):Prop where
 rise:gm (Go.Lib.compactUpTo d m)
 le:∀ x∈Go.Lib.compactUpTo d m,0 < m/\x<=d[m - 1]!
 mem:∀ x,x∈Go.Lib.compactUpTo d m↔∃ i,i < m/\d[i]! = x
 len:(Go.Lib.compactUpTo d m).length<=m
theorem RM {d:Array Int} {n:Nat} (hs:∀ i,i+1 < n->d[i]! <= d[i+1]!):∀ m,m<=n->YA d m:=by
 intro m
 induction m with
 | zero=>intro _;exact ⟨List.Pairwise.nil,fun x hx=>(by cases hx),fun x=>(by simp [Go.Lib.compactUpTo]),Nat.le_refl _⟩
 | succ m ih =>
  intro hm;obtain ⟨h1,h2,h3,h4⟩:=ih (by omega);have e:=Go.Lib.compactUpTo_succ d m
  by_cases hk:Go.Lib.keeps d m=true
  ·rw [if_pos hk] at e
   have aq:∀ x∈Go.Lib.compactUpTo d m,x < d[m]! := fun x hx=>by
    obtain ⟨h5,h6⟩:=h2 x hx;have h7:=hs (m - 1) (by omega);rw [Nat.sub_add_cancel h5] at h7
    have:d[m]! ≠ d[m - 1]! := by
     unfold Go.Lib.keeps at hk;simp only [decide_eq_true_eq] at hk
     rcases hk with h | h
     ·omega
     ·exact h
    omega
   refine ⟨?_,fun x hx=>?_,fun x=>?_,?_⟩
   ·rw [e];unfold gm at *;rw [List.pairwise_append];exact ⟨h1,by simp,fun a ha b hb=>by rw [mem_singleton] at hb;rw [hb];exact aq a ha⟩
   ·rw [e,List.mem_append,mem_singleton] at hx;rw [Nat.add_sub_cancel]
    rcases hx with h | h
    ·have:=aq x h;omega
    ·omega
   ·rw [e,List.mem_append,mem_singleton,h3];constructor
    ·rintro (⟨i,hi,hx⟩ | hx)
     ·exact ⟨i,by omega,hx⟩
     ·exact ⟨m,by omega,hx.symm⟩
    ·rintro ⟨i,hi,hx⟩
     by_cases him:i=m
     ·subst him;exact .inr hx.symm
     ·exact .inl ⟨i,by omega,hx⟩
   ·rw [e,length_append];simp;omega
  ·rw [if_neg hk,append_nil] at e
   have QS:0 < m:=by
    rcases Nat.eq_zero_or_pos m with h | h
    ·subst h;exact absurd (by simp [Go.Lib.keeps]) hk
    ·exact h
   have heq:d[m]! = d[m - 1]! := by
    unfold Go.Lib.keeps at hk;simp only [decide_eq_true_eq,not_or] at hk;exact Decidable.not_not.1 hk.2
   refine ⟨by rw [e];exact h1,fun x hx=>?_,fun x=>?_,by rw [e];omega⟩
   ·rw [e] at hx;rw [Nat.add_sub_cancel,heq];exact ⟨by omega,(h2 x hx).2⟩
   ·rw [e,h3];constructor
    ·rintro ⟨i,hi,hx⟩;exact ⟨i,by omega,hx⟩
    ·rintro ⟨i,hi,hx⟩
     by_cases him:i=m
     ·subst him;exact ⟨i - 1,by omega,by rw [<-heq];exact hx⟩
     ·exact ⟨i,by omega,hx⟩
def fv (l:List Int):List Int:=l.mergeSort IV
theorem D1 (l:List Int):(fv l).Perm l:=List.mergeSort_perm l IV
theorem lO (l:List Int):(fv l).length=l.length:=(D1 l).length_eq
theorem wL {l:List Int} {x:Int}:x∈fv l↔x∈l:=(D1 l).mem_iff
theorem HP (l:List Int):(fv l).Pairwise (·<=·):=by
 have:=List.pairwise_mergeSort (le:=IV) (fun a b c h1 h2=>by unfold IV at *;simp at *;omega) (fun a b=>by unfold IV;simp;omega) l
 exact this.imp fun {a b} h=>by unfold IV at h;simpa using h
theorem Td (l:List Int):Go.Lib.compact (fv l)=og l/\(Go.Lib.compact (fv l)).length<=(fv l).length:=by
 have hs:=HP l
 have hg:∀ i,i < (fv l).length->∃ x,(fv l)[i]?=some x/\(fv l).toArray[i]! = x:=fun i hi=>⟨(fv l)[i],getElem?_eq_getElem _,by simp [getElem!_pos,hi]⟩
 have h:=RM (d:=(fv l).toArray) (n:=(fv l).length) (fun i hi=>by
  rw [List.pairwise_iff_getElem] at hs;have:=hs i (i+1) (by omega) hi (by omega)
  simpa [getElem!_pos,hi,show i < (fv l).length by omega] using this) _ (Nat.le_refl _)
 refine ⟨BW h.rise (rF l) fun x=>?_,h.len⟩;unfold Go.Lib.compact;rw [h.mem,wH];constructor
 ·rintro ⟨i,hi,hx⟩;obtain ⟨y,hy,he⟩:=hg i hi;rw [he] at hx;subst hx;exact wL.1 (mem_of_getElem? hy)
 ·intro hx;obtain ⟨i,hi⟩:=getElem?_of_mem (wL.2 hx);have aq:=(List.getElem?_eq_some_iff.1 hi).1;obtain ⟨y,hy,he⟩:=hg i aq;rw [hi] at hy;cases hy;exact ⟨i,aq,he⟩
end Go.Im
