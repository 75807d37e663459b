/- Part 6 of proofs that are told in their last texts. -/
import Derived.Test.YthgncfaljaocoaaGreatDoorX5
import Derived.Laws.OwnMore
import Derived.Test.YthgncfaljaocoaaGreatDoorX2
import Derived.Test.YthgncfaljaocoaaGreatDoorX3
open List (any_eq_false append_assoc append_nil cons_append drop_eq_getElem_cons drop_length flatten_cons getElem?_append_right getElem?_eq_getElem getElem?_map getElem?_set length_append length_cons length_map length_nil length_replicate length_take length_zipWith map_take mem_cons_of_mem mem_cons_self mem_of_getElem? nil_append set_cons_zero take_add_one take_length toList_toArray)
set_option linter.unusedVariables false
set_option linter.unusedSimpArgs false
set_option maxRecDepth 100000
namespace Go.Xg
open Go.RowKit Go.Xw
section
variable {B:Bs} {K:Fz} {β:Bt} {Γ:List Ob} {w:World}
theorem Inv.swap {i:Nat} {y:Ob} (h:Inv B K β Γ w) (ho:jC K β w i y):Inv B K β (oset Γ i y) w:=by
 refine ⟨h.ext,h.kle,h.ble,h.loc,h.fz,fun j x hj=>?_,fun j hj=>h.out j (by simpa [aX] using hj),h.dis,h.own,h.kn,h.tab⟩;rw [aX,getElem?_set] at hj;split at hj
 ·rename_i fU;split at hj
  ·cases hj;subst fU;exact ho
  ·cases hj
 ·exact h.ob j x hj
theorem Inv.Aj {i E k:Nat} {rows:List (List GV)} {x:Value} (h:Inv B K β Γ w) (hi:Γ[i]?=some (.vech E k rows x)):Inv B K β (oset Γ i (.vec E k 0 rows)) w:=by
 obtain ⟨xs,h1,h2,h3,h4,h5⟩:=h.ob i _ hi;exact h.swap ⟨x,xs,h1,h2,h3,h4,fun b hb=>⟨fun o _=>h5 b hb o,fun o g ho=>by omega⟩,Nat.zero_le _⟩
theorem Inv.yI {i E k:Nat} {rows:List (List GV)} (h:Inv B K β Γ w) (hi:Γ[i]?=some (.vec E k 0 rows)):∃ a c,β i=.gr (.slice a rows.length c) rows.length/\Inv B K β (oset Γ i (.vech E k rows (.slice a rows.length c))) w:=by
 obtain ⟨x,xs,h1,h2,h3,h4,h5,h6⟩:=h.ob i _ hi;obtain ⟨a,c,rfl⟩:=h2.shape;exact ⟨a,c,h1,h.swap ⟨xs,h1,h2,h3,h4,fun b hb o=>(h5 b hb).1 o ah⟩⟩
theorem od {i:Nat} {x y:Ob} (h:Γ[i]?=some x):(oset Γ i y)[i]?=some y:=by
 have:=(List.getElem?_eq_some_iff.1 h).1;rw [aX,getElem?_set];simp [this]
theorem mH {i:Nat} {x y:Ob}:oset (oset Γ i x) i y=oset Γ i y:=by rw [aX,aX,aX,List.set_set]
theorem Inv.gr {i E k:Nat} {rows:List (List GV)} {x:Value} (h:Inv B K β Γ w) (hi:Γ[i]?=some (.vech E k rows x)):β i=.gr x rows.length:=by
 obtain ⟨xs,h1,_⟩:=h.ob i _ hi;exact h1
theorem Inv.rh {i E k:Nat} {rows:List (List GV)} {x:Value} (h:Inv B K β Γ w) (hi:Γ[i]?=some (.vech E k rows x)):∃ K',cm K K'/\Rel K' β x (.sl k rows)/\Inv B K' β (oset Γ i (.vec E k rows.length rows)) w:=by
 obtain ⟨xs,h1,h2,h3,h4,h5⟩:=h.ob i _ hi;obtain ⟨K',hK,BN,be⟩:=(h.Aj hi).gD (od hi);rw [<-aX,mH] at be;refine ⟨K',hK,?_,be⟩
 rcases h2.2 with ⟨e5,e6⟩ | ⟨g,cap,cu,e5,_,_,px,_⟩
 ·have:rows=[]:=List.eq_nil_of_length_eq_zero e6;subst this;subst e5;exact .sl0 _ _ _
 ·subst e5;refine .sl g 0 cap k rows (fun j r hr=>⟨(h4 r (mem_of_getElem? hr)).1,fun q g' kM=>?_⟩) px;rw [Nat.zero_add];exact BN _ g h1 rfl _ g' (sw h4 hr kM)
end
section
variable {P:Program} {m:Nat} {Q:dQ} {fr:List GV} {Γ:List Ob} {ops:Array Oper} {rest:List Oper} {d:Option Tmp} {op:Op} {ty:TypeId} {pos:String} {af:Array Edge}
theorem Wk.l8 (E k:Nat):Wk m fr Γ fr (Γ++[.vech E k [] (.slice none 0 0)]):=fun B K β w l hm hI hF=>by
 have bV:β Γ.length=.no:=hI.out _ (Nat.le_refl _);have be:=hI.Aq (w':=w) (E:=E) (k:=k) (x:=.slice none 0 0) (xs:=[]) (rows:=[]) (Ext.refl w) (gw.nil w 0 E k) (fun b hb=>by cases hb) aV.nil (fun r hr=>by cases hr);have hle:dc β (eK β Γ.length (.gr (.slice none 0 0) ([]:List (List GV)).length)):=gk (by rw [bV];trivial);refine ⟨K,_,?_,hF.mono (cm.refl K) hle⟩;have hb:eK β Γ.length (.gr (.slice none 0 0) ([]:List (List GV)).length) Γ.length=.gr (.slice none 0 0) ([]:List (List GV)).length:=bm;have:=be.swap (i:=Γ.length) (y:=.vech E k [] (.slice none 0 0)) ⟨[],hb,gw.nil w 0 E k,aV.nil,(fun r hr=>by cases hr),(fun b hb=>by cases hb)⟩;rw [aX] at this;simpa using this
theorem Wk.o9 {t i E k:Nat} {rows:List (List GV)} {x:Value} (ht:cj fr t=.v x) (gz:iT fr t=true) (br:Γ[i]?=some (.vech E k rows x)):Wk m fr Γ (bj fr t (.sl k rows)) (oset Γ i (.vec E k rows.length rows)):=fun B K β w l hm hI hF=>by
 obtain ⟨K',hK,hr,be⟩:=hI.rh br;refine ⟨K',β,be,?_⟩;have hv:nth l t=x:=Rel.eT (by rw [<-ht];exact hF.nth t);have:=(hF.mono hK (dc.refl β)).eF t hr;rw [<-hv,zb (lM hF gz)] at this;exact this
theorem aV.bj {K:Fz} {β:Bt} {x:Value} {g:GV} (hr:Rel K β x g):∀ {vs:List Value} {cs:List GV} {o:Nat},aV K β vs cs->cs[o]?=some (.v x)->aV K β vs (bj cs o g):=by
 intro vs
 induction vs with
 | nil=>intro cs o h ho;have:cs=[]:=List.eq_nil_of_length_eq_zero h.1.symm;subst this;simp at ho
 | cons v vs ih =>
  intro cs o h ho
  cases cs with
  | nil=>simp at ho
  | cons c cs =>
   obtain ⟨a1,a2⟩:=h.nR
   cases o with
   | zero=>cases ho;have hv:=Rel.eT a1;subst hv;exact .cons hr a2
   | succ o=>exact .cons a1 (ih a2 (by simpa using ho))
theorem Wk.xC {i o j E k:Nat} {T:TypeId} {cs:List GV} {rows:List (List GV)} {x:Value} (hi:Γ[i]?=some (.box T cs)) (ho:cs[o]?=some (.v x)) (fU:Nat.beq i j=false) (hj:Γ[j]?=some (.vech E k rows x)):Wk m fr Γ fr (oset (oset Γ j (.vec E k rows.length rows)) i (.box T (bj cs o (.sl k rows)))):=fun B K β w l hm hI hF=>by
 have bO:i≠j:=by intro e;subst e;simp at fU
 obtain ⟨K',hK,hr,be⟩:=hI.rh hj;obtain ⟨b,vs,h1,h2,h3,h4⟩:=be.ob i (.box T cs) (by rw [aX,getElem?_set,if_neg (fun e=>bO e.symm)];exact hi);exact ⟨K',β,be.swap ⟨b,vs,h1,h2,aV.bj hr h3 ho,h4⟩,hF.mono hK (dc.refl β)⟩
def dw:List (List GV)->Nat->Nat->GV->List (List GV)
 | [],_,_,_=>[]
 | r::rs,0,o,g=>bj r o g::rs
 | r::rs,n+1,o,g=>r::dw rs n o g
theorem yG:∀ (l:List GV) (o:Nat) (g:GV),(bj l o g).length=l.length
 | [],_,_=>rfl
 | _::l,0,_=>rfl
 | _::l,o+1,g=>by simp [bj,yG l o g]
theorem yF:∀ (a b:List GV) (o:Nat) (g:GV),bj (a++b) (a.length+o) g=a++bj b o g
 | [],b,o,g=>by simp
 | x::a,b,o,g=>by
  rw [cons_append,length_cons,show a.length+1+o=(a.length+o)+1 by omega,bj,yF a b o g];rfl
theorem BJ:∀ (a b:List GV) (o:Nat) (g:GV),o < a.length->bj (a++b) o g=bj a o g++b
 | [],b,o,g,h=>by simp at h
 | x::a,b,0,g,h=>rfl
 | x::a,b,o+1,g,h=>by simp [bj,BJ a b o g (by simpa using h)]
theorem MO {l:List GV} {o:Nat} {g x:GV} (h:x∈bj l o g):x∈l\/x=g:=by
 induction l generalizing o with
 | nil=>cases h
 | cons y l ih =>
  cases o with
  | zero =>
   simp only [bj,List.mem_cons] at h;rcases h with h | h
   ·exact .inr h
   ·exact .inl (mem_cons_of_mem _ h)
  | succ o =>
   simp only [bj,List.mem_cons] at h;rcases h with h | h
   ·exact .inl (by rw [h];exact mem_cons_self)
   ·exact (ih h).imp (mem_cons_of_mem _) id
theorem fk:∀ (rows:List (List GV)) (i o:Nat) (g:GV),(dw rows i o g).length=rows.length
 | [],_,_,_=>rfl
 | r::rs,0,_,_=>rfl
 | r::rs,n+1,o,g=>by simp [dw,fk rs n o g]
theorem tu {k:Nat} {o:Nat} {g:GV} (ho:o < k):∀ {rows:List (List GV)} {i:Nat},fM k rows->i < rows.length->(dw rows i o g).flatten=bj rows.flatten (i * k+o) g
 | [],_,_,h=>by simp at h
 | r::rs,0,hk,_=>by
  have:=(hk r (mem_cons_self)).1;rw [dw,flatten_cons,flatten_cons,Nat.zero_mul,Nat.zero_add,BJ _ _ _ _ ah]
 | r::rs,n+1,hk,h=>by
  have:=(hk r (mem_cons_self)).1;rw [dw,flatten_cons,flatten_cons,tu ho (fun r hr=>hk r (mem_cons_of_mem _ hr)) (by simpa using h),show (n+1) * k+o=r.length+(n * k+o) by rw [Nat.succ_mul];omega,yF]
theorem xB {k:Nat} {o:Nat} {g:GV} (hg:g.pc=true):∀ {rows:List (List GV)} {i:Nat},fM k rows->fM k (dw rows i o g)
 | [],_,_=>fun r hr=>by cases hr
 | r::rs,0,hk=>fun r' hr=>by
  simp only [dw,List.mem_cons] at hr
  rcases hr with rfl | hr
  ·exact ⟨by rw [yG];exact (hk r mem_cons_self).1,fun x hx=>by
    rcases MO hx with h | h
    ·exact (hk r mem_cons_self).2 x h
    ·rw [h];exact hg⟩
  ·exact hk r' (mem_cons_of_mem _ hr)
 | r::rs,n+1,hk=>fun r' hr=>by
  simp only [dw,List.mem_cons] at hr
  rcases hr with rfl | hr
  ·exact hk _ mem_cons_self
  ·exact xB hg (fun r hr=>hk r (mem_cons_of_mem _ hr)) r' hr
theorem Eh {a b:List (List GV)} {r:List GV} {o:Nat} {g:GV}:dw (a++r::b) a.length o g=a++bj r o g::b:=by
 induction a with
 | nil=>rfl
 | cons x a ih=>rw [cons_append,length_cons,dw,ih];rfl
theorem Wk.IP {i idx o j E k T k':Nat} {rows ks:List (List GV)} {x h:Value} {r:List GV} (hi:Γ[i]?=some (.vech T k rows h)) (hr:rows[idx]?=some r) (ho:r[o]?=some (.v x)) (fU:Nat.beq i j=false) (hj:Γ[j]?=some (.vech E k' ks x)) :
  Wk m fr Γ fr (oset (oset Γ j (.vec E k' ks.length ks)) i (.vech T k (dw rows idx o (.sl k' ks)) h)):=fun B K β w l hm hI hF=>by
 have bO:i≠j:=by intro e;subst e;simp at fU
 obtain ⟨K',hK,eG,be⟩:=hI.rh hj;obtain ⟨xs,h1,h2,h3,h4,h5⟩:=be.ob i (.vech T k rows h) (by rw [aX,getElem?_set,if_neg (fun e=>bO e.symm)];exact hi);have aq:=(List.getElem?_eq_some_iff.1 hr).1
 have zI:o < k:=by rw [<-(h4 r (mem_of_getElem? hr)).1];exact (List.getElem?_eq_some_iff.1 ho).1
 exact ⟨K',β,be.swap ⟨xs,by rw [fk];exact h1,by rw [fk];exact h2,by rw [tu zI h4 aq];exact aV.bj eG h3 (sw h4 hr ho),xB rfl h4,h5⟩,hF.mono hK (dc.refl β)⟩
theorem YG.bs {x y:Operand} {t e:TypeId} {k:Nat} [hT:ma P t e k] (i:Nat) {v:Value} {kk:IntKind} {j E:Nat} {rows:List (List GV)} (hx:aP fr x=.v v) (hy:aP fr y=.v (.int kk j)) (br:Γ[i]?=some (.vech E k rows v)) (hj:j < rows.length):YG P (.indexAddr t x y) fr Γ (.vp i rows.length k j 0):=fun B K β w l hI hF=>by
 have hv:=hF.gy hx;obtain ⟨xs,h1,h2,h3,h4,h5⟩:=hI.ob i _ br
 rcases h2.2 with ⟨h8,h9⟩ | ⟨g,cap,cur,h8,_,hg,_⟩
 ·omega
 ·subst h8;exact ⟨_,R.pP hv (hF.gy hy) hj,.vp i _ k j 0 _ ⟨_,_,h1,Nat.le_refl _,fun _=>⟨g,rfl,by simp⟩⟩⟩
theorem YG.rP {x:Operand} {s:TypeId} {f off k:Nat} {agg:Bool} [hT:dh P s f off k agg] {i n k' idx o E:Nat} {rows:List (List GV)} {v:Value} (hx:aP fr x=.vp i n k' idx o) (br:Γ[i]?=some (.vech E k' rows v)) (hn:rows.length=n):YG P (.fieldAddr s x f) fr Γ (.vp i n k' idx (o+off)):=fun B K β w l hI hF=>by
 have h:=hF.ev x;rw [hx] at h;generalize hv:ev l x=u at h
 cases h with
 | vp _ _ _ _ _ _ h =>
  obtain ⟨h0,m,h1,h2,h3⟩:=h;rw [hI.gr br] at h1;cases h1;obtain ⟨b,hb,rfl⟩:=h3 hn;exact ⟨_,R.MH hv,.vp i n k' idx _ _ ⟨_,_,hI.gr br,h2,fun _=>⟨b,hb,by rw [Nat.add_assoc]⟩⟩⟩
theorem YG.wR {x:Operand} {t:TypeId} [hT:Ty P t false 1] {i n k idx o E:Nat} {rows:List (List GV)} {v:Value} {r:List GV} {g:GV} (hx:aP fr x=.vp i n k idx o) (br:Γ[i]?=some (.vech E k rows v)) (hn:rows.length=n) (hr:rows[idx]?=some r) (hg:r[o]?=some g):YG P (.load t x) fr Γ g:=fun B K β w l hI hF=>by
 have h:=hF.ev x;rw [hx] at h;generalize hv:ev l x=u at h
 cases h with
 | vp _ _ _ _ _ _ h =>
  obtain ⟨h0,m,h1,h2,h3⟩:=h;obtain ⟨xs,h4,h5,h6,h7,_⟩:=hI.ob i _ br;rw [h1] at h4;cases h4;obtain ⟨b,hb,rfl⟩:=h3 hn;obtain ⟨u,hu,eG⟩:=h6.at (sw h7 hr hg);obtain ⟨b2,c,he,_,_,hc⟩:=h5.cells.2 (by intro h0;rw [h0] at hu;simp at hu);subst he;cases hb;exact ⟨u,R.ld hv (by rw [<-eN];exact hc _ _ hu),eG⟩
theorem zc {v:Value}:∀ (l:List Value) (n o:Nat),o < n->(eF l o v).take n=eF (l.take n) o v
 | [],n,o,h=>by simp [eF]
 | x::l,0,o,h=>by omega
 | x::l,n+1,0,h=>by simp [eF]
 | x::l,n+1,o+1,h=>by simp [eF,zc l n o ah]
theorem vJ {v:Value}:∀ (l:List Value) (o:Nat),(eF l o v).length=l.length
 | [],o=>rfl
 | x::l,0=>rfl
 | x::l,o+1=>by simp [eF,vJ l o]
theorem GL.Ys {x y:Operand} {t:TypeId} [hT:Ty P t false 1] {i n k idx o E:Nat} {rows:List (List GV)} {v:Value} {r:List GV} {g:GV} (hx:aP fr x=.vp i n k idx o) (br:Γ[i]?=some (.vech E k rows v)) (hn:rows.length=n) (hr:rows[idx]?=some r) (zI:Nat.blt o r.length=true)
  (hy:lK (aP fr y)=some [g]) (h1:g.one=true) (hp:g.pc=true) (h:GL P m ops Q rest (bh fr d (.v undef)) (oset Γ i (.vech E k (dw rows idx o g) v))):GL P m ops Q (⟨d,.store t x y,ty,pos,af,none⟩::rest) fr Γ:=fun B K β w l hm hI hF=>by
 have DF:=hF.ev x;rw [hx] at DF;generalize hv:ev l x=u at DF
 cases DF with
 | vp _ _ _ _ _ _ hh =>
  obtain ⟨h0,mm,e1,e2,e3⟩:=hh;obtain ⟨xs,h4,h5,h6,h7,h8⟩:=hI.ob i _ br;rw [e1] at h4;cases h4;obtain ⟨b,hb,rfl⟩:=e3 hn;have aq:=(List.getElem?_eq_some_iff.1 hr).1
  have V6:o < k:=by rw [<-(h7 r (mem_of_getElem? hr)).1];simpa using zI
  obtain ⟨us,jA,jY⟩:=(hF.ev y).cells hy
  obtain ⟨u1,rfl⟩:∃ u1,us=[u1]:=by
   have:=jY.1
   match us,this with
   | [u1],_=>exact ⟨u1,rfl⟩
  have U1:Rel K β u1 g:=jY.2 0 u1 g rfl rfl
  have hq:idx * k+o < rows.length * k:=by
   have:(idx+1) * k<=rows.length * k:=Nat.mul_le_mul_right k aq;rw [Nat.succ_mul] at this;omega
  rcases h5.2 with ⟨e5,e6⟩ | ⟨g0,cap,cur,e5,HP,hg,px,xZ,b8,jz⟩
  ·omega
  ·subst e5;simp only [Value.ownBlock,Option.some.injEq] at hb;subst hb;have VK:rows.length * k<=cap * k:=Nat.mul_le_mul_right k px
   refine WL.st (t:=t) (k:=1) hv rfl hg (by rw [jA];rfl) ah (by rw [jA];have:=(vC (U1.one h1)).2;simpa [Xw.kR] using this) fun w' hs=>?_
   rw [jA] at hs
   have fq:tO cur (idx * k+o) ([u1]:List Value)=(eF cur.toList (idx * k+o) u1).toArray:=by
    simp only [tO];rw [<-xb]
   simp only [toList_toArray,fq] at hs
   have xt:rows.flatten.length=rows.length * k:=by rw [<-h6.1];exact h5.1
   have how:gw w' 0 E k (.slice (some ⟨g0,0,none⟩) rows.length cap) rows.length (eF xs (idx * k+o) u1) :=
    ⟨by rw [vJ];exact h5.1,.inr ⟨g0,cap,_,rfl,HP,hs.blk,px,xZ,by simp [vJ,b8],by rw [toList_toArray,zc _ _ _ hq,jz]⟩⟩
   have eG:aV K β (eF xs (idx * k+o) u1) (bj rows.flatten (idx * k+o) g):=by
    have gen:∀ (vs:List Value) (cs:List GV) (q:Nat),aV K β vs cs->aV K β (eF vs q u1) (bj cs q g):=by
     intro vs
     induction vs with
     | nil=>intro cs q h;have:cs=[]:=List.eq_nil_of_length_eq_zero h.1.symm;subst this;exact h
     | cons v vs ih =>
      intro cs q h
      cases cs with
      | nil=>have:=h.1;simp at this
      | cons c cs =>
       obtain ⟨a1,a2⟩:=h.nR
       cases q with
       | zero=>exact .cons U1 a2
       | succ q=>exact .cons a1 (ih cs q a2)
    exact gen _ _ _ h6
   have ed:(β i).blk=some g0:=by rw [e1];rfl
   have be:Inv B K β (oset Γ i (.vech E k (dw rows idx o g) (.slice (some ⟨g0,0,none⟩) rows.length cap))) w':=by
    refine ⟨hI.ext.step hs.ext (fun j hj=>?_),hI.kle,hI.ble,hI.loc,hI.fz.ext hs.ext (fun b' o' g' kM he=>?_),fun j y hj=>?_,fun j hj=>hI.out j (by simpa [aX] using hj),hI.dis,hI.own,hI.kn,hI.tab.step hs.ext (fun j hj=>⟨i,by subst hj;exact ed⟩) (cm.refl K) (fun i b2 h=>.inl ⟨i,h⟩)⟩
    ·subst hj;exact (hI.own i _ ed).symm
    ·subst he;rw [h8 _ rfl] at kM;cases kM
    ·rw [aX,getElem?_set] at hj;split at hj
     ·rename_i fU;split at hj
      ·cases hj;subst fU
       exact ⟨_,by rw [fk];exact e1,by rw [fk];exact how,by rw [tu V6 h7 aq];exact eG,xB hp h7,h8⟩
      ·cases hj
     ·rename_i fU;refine (hI.ob j y hj).ext hs.ext (fun b' ba he=>?_) (cm.refl K) (dc.refl β) rfl (fun _ _ _ h=>h);subst he;exact fU (hI.dis i j _ ed ba)
   exact h B K β w' _ hm be (hF.put d (.v _))
theorem GL.ql {x:Operand} {ts:Tmp} {t e k gx:Nat} {z:List Value} [hT:nC P t e k gx] [hZ:oE P t e k z] {d1 dt:Tmp} {LU:TypeId} {Ec:String} {Jm:Array Edge} (i:Nat) {n:Nat} {rows:List (List GV)} {gs:List GV} {v:Value}
  (hx:lK (aP fr x)=some gs) (hk:Nat.beq gs.length k=true) (h1:lE gs=true) (hp:qH gs=true) (hs:cj fr ts=.v v) (RX:Nat.beq ts d1=false) (hd:iT fr d1=true) (br:Γ[i]?=some (.vech e k rows v)) (hn:rows.length=n)
  (hb:(n+1<=9223372036854775807/\(n+1) * gx<=140737488355328)/\k<=16777216)
  (h:∀ a c,GL P m ops Q rest (bh (bh fr (some d1) .Zy) (some dt) (.v (.slice a (n+1) c))) (oset Γ i (.vech e k (rows++[gs]) (.slice a (n+1) c)))) :
  GL P m ops Q (⟨some d1,.buildSlice t 1 #[(0,x)],LU,Ec,Jm,none⟩::⟨some dt,.call ⟨.builtin .append,#[.tmp ts,.tmp d1],#[t,t]⟩,ty,pos,af,none⟩::rest) fr Γ:=fun B K β w l hm hI hF=>by
 subst hn;obtain ⟨us,jA,jY⟩:=(hF.ev x).cells hx;obtain ⟨xs,o1,o2,o3,o4,o5⟩:=hI.ob i _ br;have pC:nth l ts=v:=Rel.eT (by rw [<-hs];exact hF.nth ts);have Km:=lM hF hd
 have V1:ts≠d1:=by intro e;subst e;simp at RX
 have kP:gs.length=k:=by simpa using hk
 refine WL.push (base:=0) (v:=v) (vs:=us) (val:=ev l x) (xs:=xs) (n:=rows.length) rfl (fun u=>by rw [show ev (put l (some d1) u) (.tmp ts)=nth (eF l d1 u) ts from rfl,nf V1];exact pC) (fun u=>rq Km u) jA (by rw [jY.1,kP]) (jY.kR h1) o2 hb.1.1 hb.1.2 hb.2 (Nat.zero_le _) ?_;intro u v' w' how fZ sW uv;obtain ⟨K',hK,pE,be⟩:=(hI.Aj br).grow (fz:=0) (od br) o1 ⟨o2,o3⟩ (news:=[gs]) (ns:=us) how fZ sW (by simpa using jY) (fun r hr=>by simp at hr;subst hr;exact ⟨kP,lU hp⟩) (by simp) (fun b ba o v ho hv=>by omega);rw [<-aX,mH] at be;obtain ⟨a,c,oO,oo⟩:=be.yI (od br);rw [mH] at oo;obtain ⟨a',c',rfl⟩:=how.shape;rw [bm] at oO;simp only [length_append,length_cons,length_nil] at oO oo pE;cases oO;exact h _ _ B K' _ w' _ hm oo (((hF.mono hK pE).put (some d1) (.Zy u)).put (some dt) (.v _))
theorem GL.n5 {s x:Operand} {t e k gx:Nat} [hT:nC P t e k gx] (i:Nat) {n:Nat} {dt:Tmp} {v:Value} {rows news:List (List GV)} (hx:aP fr x=.sl k news) (hs:aP fr s=.v v) (br:Γ[i]?=some (.vech e k rows v)) (hn:rows.length=n) (h1:ml news=true) (bO:news.isEmpty=false)
  (hb:n+news.length<=9223372036854775807/\(n+news.length) * gx<=140737488355328)
  (h:∀ a c,GL P m ops Q rest (bh fr (some dt) (.v (.slice a (n+news.length) c))) (oset Γ i (.vech e k (rows++news) (.slice a (n+news.length) c)))) :
  GL P m ops Q (⟨some dt,.call ⟨.builtin .append,#[s,x],#[t,t]⟩,ty,pos,af,none⟩::rest) fr Γ:=fun B K β w l hm hI hF=>by
 subst hn
 have bO:news≠[]:=by intro h0;rw [h0] at bO;cases bO
 obtain ⟨xs,o1,o2,o3,o4,o5⟩:=hI.ob i _ br;have pC:ev l s=v:=hF.gy hs;have sc:=hF.ev x;rw [hx] at sc;generalize qC:ev l x=vx at sc
 cases sc with
 | sl0 a c k=>exact absurd rfl bO
 | sl b o c _ _ hr _ =>
  have jv:fM k news:=fun r Kx=>by
   obtain ⟨j,hj⟩:=List.mem_iff_getElem?.1 Kx;refine ⟨(hr j r hj).1,fun g hg=>?_⟩;obtain ⟨q,hq⟩:=List.mem_iff_getElem?.1 hg;exact (hI.fz _ _ _ ((hr j r hj).2 q g hq)).1
  have xt:∀ (rows:List (List GV)) (o:Nat),(∀ (j:Nat) r,rows[j]?=some r->r.length=k/\∀ (q:Nat) g,r[q]?=some g->K b (o+j * k+q)=some g)->∀ (q:Nat) g,rows.flatten[q]?=some g->K b (o+q)=some g:=by
   intro rows
   induction rows with
   | nil=>intro o _ q g hg;simp at hg
   | cons r rows ih =>
    intro o h q g hg;rw [flatten_cons] at hg;have hl:=(h 0 r rfl).1
    by_cases hq:q < r.length
    ·rw [List.getElem?_append_left hq] at hg;have:=(h 0 r rfl).2 q g hg;simpa using this
    ·rw [getElem?_append_right ah,hl] at hg
     have:=ih (o+k) (fun j r' hj=>by
      have:=h (j+1) r' (by simpa using hj);refine ⟨this.1,fun q g hg=>?_⟩;have:=this.2 q g hg
      rw [show o+(j+1) * k+q=o+k+j * k+q by rw [Nat.succ_mul];omega] at this;exact this) (q - k) g hg
     rw [show o+k+(q - k)=o+q by omega] at this;exact this
  obtain ⟨us,jA,jY⟩:=vb (K:=K) (β:=β) (H:=w.heap) (b:=b) news.flatten o (fun j g hj=>by
   obtain ⟨hp,u,hu,eG⟩:=hI.fz _ _ _ (xt news o (fun j r hj=>hr j r hj) j g hj)
   exact ⟨u,hu,eG.pc hp⟩)
  have BU:us.length=news.length * k:=by
   rw [jA.1,List.length_flatten]
   have:∀ (rows:List (List GV)),fM k rows->(rows.map List.length).sum=rows.length * k:=by
    intro rows
    induction rows with
    | nil=>intro _;simp
    | cons r rows ih =>
     intro hk;rw [List.map_cons,List.sum_cons,ih (fun r hr=>hk r (mem_cons_of_mem _ hr)),(hk r (mem_cons_self)).1,length_cons,Nat.succ_mul];omega
   exact this news jv
  refine WL.app (base:=0) (v:=v) (n:=rows.length) (m:=news.length) (xs:=xs) (news:=us) pC o2 qC BU (fun j u hj=>by rw [eN];exact jY j u hj) (jA.kR (z8 h1)) hb.1 hb.2 (Nat.zero_le _) ?_;intro v' w' how fZ sW uv;obtain ⟨K',hK,pE,be⟩:=(hI.Aj br).grow (fz:=0) (od br) o1 ⟨o2,o3⟩ (news:=news) (ns:=us) how fZ sW jA jv bO (fun b ba o v ho hv=>by omega);rw [<-aX,mH] at be;obtain ⟨a,c,oO,oo⟩:=be.yI (od br);rw [mH] at oo;obtain ⟨a',c',rfl⟩:=how.shape;rw [bm] at oO;simp only [length_append] at oO oo pE;cases oO;exact h _ _ B K' _ w' _ hm oo ((hF.mono hK pE).put (some dt) (.v _))
end
end Go.Xg
namespace Go.Xg
open Go.RowKit Go.Xw
theorem Cm:∀ (us vs:List Value) (o n:Nat),o+us.length<=n->(gi vs o us).take n=gi (vs.take n) o us
 | [],vs,o,n,_=>rfl
 | u::us,vs,o,n,h=>by
  rw [length_cons] at h;rw [gi,gi,Cm us _ _ _ ah,zc _ _ _ ah]
theorem wj (a:List GV):∀ (gs b:List GV) (o:Nat),na (a++b) (a.length+o) gs=a++na b o gs
 | [],b,o=>rfl
 | g::gs,b,o=>by rw [na,na,yF,Nat.add_assoc,wj a gs]
theorem zt:∀ (gs a b:List GV),a.length=gs.length->na (a++b) 0 gs=gs++b
 | [],[],b,_=>rfl
 | [],x::a,b,h=>by simp at h
 | g::gs,[],b,h=>by simp at h
 | g::gs,x::a,b,h=>by
  rw [na,cons_append,bj];have:=wj [g] gs (a++b) 0;simp only [length_cons,length_nil,cons_append,nil_append,Nat.zero_add,Nat.add_zero] at this |-;rw [this,zt gs a b (by simpa using h)]
theorem Ef {k:Nat} {gs:List GV} (hg:gs.length=k):∀ {rows:List (List GV)} {i:Nat},fM k rows->i < rows.length->na rows.flatten (i * k) gs=(rows.set i gs).flatten
 | [],_,_,h=>by simp at h
 | r::rs,0,hk,_=>by
  rw [flatten_cons,set_cons_zero,flatten_cons,Nat.zero_mul,zt gs r _ (by rw [hg];exact (hk r mem_cons_self).1)]
 | r::rs,n+1,hk,h=>by
  have hr:=(hk r mem_cons_self).1;rw [flatten_cons,List.set_cons_succ,flatten_cons,<-Ef hg (fun r hr=>hk r (mem_cons_of_mem _ hr)) (by simpa using h),show (n+1) * k=r.length+n * k by rw [Nat.succ_mul];omega,wj]
theorem IK {k:Nat} {gs:List GV} (hg:gs.length=k) (hp:qH gs=true) {rows:List (List GV)} {i:Nat} (h:fM k rows):fM k (rows.set i gs):=fun r hr=>by
 rcases List.mem_or_eq_of_mem_set hr with hr | rfl
 ·exact h r hr
 ·exact ⟨hg,lU hp⟩
section
variable {P:Program} {m:Nat} {ops:Array Oper} {Q:dQ} {rest:List Oper} {fr:List GV} {Γ:List Ob} {d:Option Tmp} {ty:TypeId} {pos:String} {af:Array Edge}
theorem GL.Wv {x y:Operand} {t:TypeId} {agg:Bool} {k:Nat} [hT:Ty P t agg k] {i n idx E:Nat} {rows:List (List GV)} {v:Value} {gs:List GV} (hx:aP fr x=.vp i n k idx 0) (br:Γ[i]?=some (.vech E k rows v)) (hn:rows.length=n) (aq:idx < rows.length)
  (hy:lK (aP fr y)=some gs) (hk:Nat.beq gs.length k=true) (h1:lE gs=true) (hp:qH gs=true) (h:GL P m ops Q rest (bh fr d (.v undef)) (oset Γ i (.vech E k (rows.set idx gs) v))):GL P m ops Q (⟨d,.store t x y,ty,pos,af,none⟩::rest) fr Γ:=fun B K β w l hm hI hF=>by
 have hk:gs.length=k:=by simpa using hk
 have DF:=hF.ev x;rw [hx] at DF;generalize hv:ev l x=u at DF
 cases DF with
 | vp _ _ _ _ _ _ hh =>
  obtain ⟨h0,mm,e1,e2,e3⟩:=hh;obtain ⟨xs,h4,h5,h6,h7,h8⟩:=hI.ob i _ br;rw [e1] at h4;cases h4;obtain ⟨b,hb,rfl⟩:=e3 hn;obtain ⟨us,jA,jY⟩:=(hF.ev y).cells hy
  have BU:us.length=k:=by rw [jY.1,hk]
  have hq:idx * k+k<=rows.length * k:=by
   have:(idx+1) * k<=rows.length * k:=Nat.mul_le_mul_right k aq;rw [Nat.succ_mul] at this;omega
  rcases h5.2 with ⟨e5,e6⟩ | ⟨g0,cap,cur,e5,HP,hg,px,xZ,b8,jz⟩
  ·omega
  ·subst e5;simp only [Value.ownBlock,Option.some.injEq] at hb;subst hb;have VK:rows.length * k<=cap * k:=Nat.mul_le_mul_right k px
   refine WL.st (t:=t) (k:=k) hv rfl hg (by rw [jA];simpa using BU) (by rw [Nat.add_zero];omega) (by rw [jA];simpa using jY.kR h1) fun w' hs=>?_
   rw [jA,toList_toArray,Nat.add_zero] at hs;obtain ⟨cur⟩:=cur;rw [tw] at hs;simp only [List.size_toArray,toList_toArray] at b8 jz
   have how:gw w' 0 E k (.slice (some ⟨g0,0,none⟩) rows.length cap) rows.length (gi xs (idx * k) us) :=
    ⟨by rw [y5];exact h5.1,.inr ⟨g0,cap,_,rfl,HP,hs.blk,px,xZ,by simp [y5,b8],by rw [toList_toArray,Cm _ _ _ _ ah,jz]⟩⟩
   have eG:aV K β (gi xs (idx * k) us) (na rows.flatten (idx * k) gs):=jY.gi _ h6;rw [Ef hk h7 aq] at eG
   have ed:(β i).blk=some g0:=by rw [e1];rfl
   have be:Inv B K β (oset Γ i (.vech E k (rows.set idx gs) (.slice (some ⟨g0,0,none⟩) rows.length cap))) w':=by
    refine ⟨hI.ext.step hs.ext (fun j hj=>?_),hI.kle,hI.ble,hI.loc,hI.fz.ext hs.ext (fun b' o' g' kM he=>?_),fun j y hj=>?_,fun j hj=>hI.out j (by simpa [aX] using hj),hI.dis,hI.own,hI.kn,hI.tab.step hs.ext (fun j hj=>⟨i,by subst hj;exact ed⟩) (cm.refl K) (fun i b2 h=>.inl ⟨i,h⟩)⟩
    ·subst hj;exact (hI.own i _ ed).symm
    ·subst he;rw [h8 _ rfl] at kM;cases kM
    ·rw [aX,getElem?_set] at hj;split at hj
     ·rename_i fU;split at hj
      ·cases hj;subst fU
       exact ⟨_,by rw [List.length_set];exact e1,by rw [List.length_set];exact how,eG,IK hk hp h7,h8⟩
      ·cases hj
     ·rename_i fU;refine (hI.ob j y hj).ext hs.ext (fun b' ba he=>?_) (cm.refl K) (dc.refl β) rfl (fun _ _ _ h=>h);subst he;exact fU (hI.dis i j _ ed ba)
   exact h B K β w' _ hm be (hF.put d (.v _))
theorem QH (n:Nat) (z:List Value):(List.replicate n (kg z)).flatten=zs n z:=by
 induction n with
 | zero=>rfl
 | succ n ih=>rw [List.replicate_succ,flatten_cons,ih,zs]
theorem GL.yg {x:Operand} {t e k gx:Nat} {z:List Value} [hT:nC P t e k gx] [hZ:oE P t e k z] {dt:Tmp} {n:Nat} (hx:aP fr x=.v (ii (n:Nat))) (hb:n<=1099511627776/\gx * n<=281474976710656)
  (h:∀ a c,GL P m ops Q rest (bh fr (some dt) (.v (.slice a n c))) (Γ++[.vech e k (List.replicate n (kg z)) (.slice a n c)])) :
  GL P m ops Q (⟨some dt,.makeSlice t x x,ty,pos,af,none⟩::rest) fr Γ:=fun B K β w l hm hI hF=>by
 obtain ⟨hu,⟨i,z0,hi,hz,KD,b8,wx⟩,hk⟩:=hT.parts;have qC:ev l x=ii (n:Nat):=hF.gy hx;obtain ⟨w',hr,h2,h3⟩:=run_make_full (P:=P) (w:=w) 0 t e i z0 k hu hi hz b8 .i64 .i64 n (by rw [wx];exact hb.2) (by simp only [maxLen];omega) (Nat.zero_le _)
 have X3:z0.cells.toList=z:=by
  have h4:=hZ.zero;rw [hi] at h4;simp only [Option.bind_some,hz,Option.some.injEq] at h4;have hl:=hZ.zl
  by_cases h1:k=1
  ·rw [if_pos h1] at h4;rw [h4,hZ.one h1];subst h1
   match z,hl with
   | [a],_=>rfl
  ·rw [if_neg h1] at h4;rw [h4];rfl
 have Rs:(madeCells z0.cells (n * k)).toList=(List.range (n * k)).map fun j=>z.getD (j % k) undef:=by
  unfold madeCells;rw [Array.toList_map,Array.toList_range];apply List.map_congr_left;intro j _
  have aq:j % k < z0.cells.size:=by rw [KD];exact Nat.mod_lt _ hk
  rw [KD,getElem!_pos z0.cells (j % k) aq,<-X3,List.getD_eq_getElem?_getD,Array.getElem?_toList,Array.getElem?_eq_getElem aq];rfl
 rw [Rs] at h2;have eG:=EV (K:=K) (β:=β) (n:=n) hZ.zl hZ.pos;rw [<-QH] at eG
 have eQ:fM k (List.replicate n (kg z)):=fun r hr=>by
  have:=List.eq_of_mem_replicate hr;subst this;refine ⟨by rw [<-hZ.zl];simp [kg],fun g hg=>?_⟩;unfold kg at hg;obtain ⟨v,_,rfl⟩:=List.mem_map.1 hg;rfl
 have fZ:Ext gX w w':=⟨h3.os,h3.tape,h3.output,h3.size,fun j hj _=>h3.block j hj (by simp)⟩;have be:=hI.Aq (x:=.slice (some ⟨w.heap.size,0,none⟩) n n) (rows:=List.replicate n (kg z)) fZ (by rw [length_replicate];exact h2) (fun b hb=>by cases hb;exact Nat.le_refl _) eG eQ
 have VS:(Γ++[Ob.vec e k 0 (List.replicate n (kg z))])[Γ.length]?=some (Ob.vec e k 0 (List.replicate n (kg z))):=by simp
 obtain ⟨a,c,oO,oo⟩:=be.yI VS;rw [bm] at oO
 injection oO with xX ey
 injection xX with wu hb4 hb5
 subst wu hb5
 have RP:oset (Γ++[.vec e k 0 (List.replicate n (kg z))]) Γ.length (.vech e k (List.replicate n (kg z)) (.slice (some ⟨w.heap.size,0,none⟩) (List.replicate n (kg z)).length n))=Γ++[.vech e k (List.replicate n (kg z)) (.slice (some ⟨w.heap.size,0,none⟩) (List.replicate n (kg z)).length n)]:=by
  rw [aX];simp
 rw [RP,length_replicate] at oo;refine WL.val (v:=.slice (some ⟨w.heap.size,0,none⟩) n n) (w':=w') (by simp [execOp,qC,hr]) ?_;exact h _ _ B K _ w' _ hm oo ((hF.mono (cm.refl K) (gk (by rw [hI.out _ (Nat.le_refl _)];trivial))).put (some dt) (.v _))
end
end Go.Xg
set_option maxHeartbeats 2000000
namespace Go.Xg
open Go.RowKit Go.Xw Go.Proofs
open Go.Xp (Nd Ar)
open Go.Sp (Src)
open Go.Im (wS ek aY mP qZ fP dF mO ke mN)
open Go.Im (kr kq kp)
attribute [local irreducible] GW GL GO YG GC GA aS aW
theorem NS (l:List Int) (hl:l.length<=1048576):GF Tryz.prog 82 [ints l] [] (ints l) []:=by
 have hm:(l.map (fun i=>[GV.v (ii i)])).length=l.length:=by simp
 refine ai Tryz.func82 Tryz.ntmps82 ?_;refine GL.yg rfl ⟨by omega,by omega⟩ ?_;intro a c;refine cL ?_;refine ab ?_;refine GW.loop (fun k:Nat=>l.length - k) (fun k fr Γ=>∃ R Z,fr=[ints l,.Zy,.Zy,.v (.slice a (l.map (fun i=>[GV.v (ii i)])).length c),.v (ii (k:Nat)),.Zy,.Zy,.Zy,.Zy,.Zy,.Zy,.Zy,.Zy,.Zy,.Zy,.Zy,.Zy,.Zy,.Zy,.Zy,.Zy,.Zy]/\Γ=[.vech 3 1 R (.slice a (l.map (fun i=>[GV.v (ii i)])).length c)]/\k<=l.length/\R=(l.take k).map (fun i=>[GV.v (ii i)])++List.replicate (l.length - k) Z) 0 ?_ ?_
 ·exact ⟨_,_,Wk.ax al,_,_,rfl,rfl,Nat.zero_le _,by rw [hm];rfl⟩
 rintro k _ _ ⟨R,Z,rfl,rfl,hk,hR⟩
 have mA:R.length=l.length:=by rw [hR];exact kq hk
 have ew:R.length=(l.map (fun i=>[GV.v (ii i)])).length:=by rw [hm];exact mA
 by_cases aq:k < l.length
 ·have hx:l[k]?=some l[k]:=by simp [aq]
  have hr:(l.map (fun i=>[GV.v (ii i)]))[k]?=some ([GV.v (ii l[k])]):=by rw [getElem?_map,hx];rfl
  have dk:decide ((k:Int) < ((l.map (fun i=>[GV.v (ii i)])).length:Int))=true:=by rw [hm];simpa using aq
  have cl:=kr (f:=(fun i=>[GV.v (ii i)])) (Z:=Z) hx;rw [<-hR] at cl;clear hR;generalize l[k]=x at *;refine ab ?_;refine jK ?_;refine ab ?_;exact ⟨k+1,⟨_,_,Wk.ax al,_,Z,rfl,rfl,aq,cl⟩,by show l.length - (k+1) < l.length - k;omega⟩
 ·have dk:decide ((k:Int) < ((l.map (fun i=>[GV.v (ii i)])).length:Int))=false:=by rw [hm];simpa using aq
  have kQ:k=l.length:=by omega
  subst kQ;rw [kp] at hR;subst hR;refine ab ?_;refine aU ?_;refine GW.wk (by apply Wk.o9 (t:=3) (i:=0) <;> rfl) ?_;simp only [oset,bj];exact av
theorem ym (l:List ae) (hl:l.length<=1048576):GF Tryz.prog 32 [strs l] [] (strs l) []:=by
 have hm:(l.map (fun s=>[GV.v (sv s)])).length=l.length:=by simp
 refine ai Tryz.func32 Tryz.ntmps32 ?_;refine GL.yg rfl ⟨by omega,by omega⟩ ?_;intro a c;refine cL ?_;refine ab ?_;refine GW.loop (fun k:Nat=>l.length - k) (fun k fr Γ=>∃ R Z,fr=[strs l,.Zy,.Zy,.v (.slice a (l.map (fun s=>[GV.v (sv s)])).length c),.v (ii (k:Nat)),.Zy,.Zy,.Zy,.Zy,.Zy,.Zy,.Zy,.Zy,.Zy,.Zy,.Zy,.Zy,.Zy,.Zy,.Zy,.Zy,.Zy]/\Γ=[.vech 9 1 R (.slice a (l.map (fun s=>[GV.v (sv s)])).length c)]/\k<=l.length/\R=(l.take k).map (fun s=>[GV.v (sv s)])++List.replicate (l.length - k) Z) 0 ?_ ?_
 ·exact ⟨_,_,Wk.ax al,_,_,rfl,rfl,Nat.zero_le _,by rw [hm];rfl⟩
 rintro k _ _ ⟨R,Z,rfl,rfl,hk,hR⟩
 have mA:R.length=l.length:=by rw [hR];exact kq hk
 have ew:R.length=(l.map (fun s=>[GV.v (sv s)])).length:=by rw [hm];exact mA
 by_cases aq:k < l.length
 ·have hx:l[k]?=some l[k]:=by simp [aq]
  have hr:(l.map (fun s=>[GV.v (sv s)]))[k]?=some ([GV.v (sv l[k])]):=by rw [getElem?_map,hx];rfl
  have dk:decide ((k:Int) < ((l.map (fun s=>[GV.v (sv s)])).length:Int))=true:=by rw [hm];simpa using aq
  have cl:=kr (f:=(fun s=>[GV.v (sv s)])) (Z:=Z) hx;rw [<-hR] at cl;clear hR;generalize l[k]=x at *;refine ab ?_;refine jK ?_;refine ab ?_;exact ⟨k+1,⟨_,_,Wk.ax al,_,Z,rfl,rfl,aq,cl⟩,by show l.length - (k+1) < l.length - k;omega⟩
 ·have dk:decide ((k:Int) < ((l.map (fun s=>[GV.v (sv s)])).length:Int))=false:=by rw [hm];simpa using aq
  have kQ:k=l.length:=by omega
  subst kQ;rw [kp] at hR;subst hR;refine ab ?_;refine aU ?_;refine GW.wk (by apply Wk.o9 (t:=3) (i:=0) <;> rfl) ?_;simp only [oset,bj];exact av
theorem Ct (x:Ar):GF Tryz.prog 61 [.agg (az x)] [] (.agg (az x)) []:=by
 refine ai Tryz.func61 Tryz.ntmps61 ?_;exact df
theorem I0 (l:List Ar) (hl:l.length<=1048576):GF Tryz.prog 33 [.sl 2 (l.map az)] [] (.sl 2 (l.map az)) []:=by
 have hm:(l.map az).length=l.length:=by simp
 refine ai Tryz.func33 Tryz.ntmps33 ?_;refine GL.yg rfl ⟨by omega,by omega⟩ ?_;intro a c;refine cL ?_;refine ab ?_;refine GW.loop (fun k:Nat=>l.length - k) (fun k fr Γ=>∃ R Z,fr=[.sl 2 (l.map az),.Zy,.Zy,.v (.slice a (l.map az).length c),.v (ii (k:Nat)),.Zy,.Zy,.Zy,.Zy,.Zy,.Zy,.Zy,.Zy,.Zy,.Zy,.Zy,.Zy,.Zy,.Zy,.Zy,.Zy,.Zy,.Zy]/\Γ=[.vech 86 2 R (.slice a (l.map az).length c)]/\k<=l.length/\R=(l.take k).map az++List.replicate (l.length - k) Z) 0 ?_ ?_
 ·exact ⟨_,_,Wk.ax al,_,_,rfl,rfl,Nat.zero_le _,by rw [hm];rfl⟩
 rintro k _ _ ⟨R,Z,rfl,rfl,hk,hR⟩
 have mA:R.length=l.length:=by rw [hR];exact kq hk
 have ew:R.length=(l.map az).length:=by rw [hm];exact mA
 by_cases aq:k < l.length
 ·have hx:l[k]?=some l[k]:=by simp [aq]
  have hr:(l.map az)[k]?=some (az l[k]):=by rw [getElem?_map,hx];rfl
  have dk:decide ((k:Int) < ((l.map az).length:Int))=true:=by rw [hm];simpa using aq
  have cl:=kr (f:=az) (Z:=Z) hx;rw [<-hR] at cl;have hc:=Ct l[k];clear hR;generalize l[k]=x at *;refine ab ?_;refine U [] (hc) ?_;refine jK ?_;refine ab ?_;exact ⟨k+1,⟨_,_,Wk.ax al,_,Z,rfl,rfl,aq,cl⟩,by show l.length - (k+1) < l.length - k;omega⟩
 ·have dk:decide ((k:Int) < ((l.map az).length:Int))=false:=by rw [hm];simpa using aq
  have kQ:k=l.length:=by omega
  subst kQ;rw [kp] at hR;subst hR;refine ab ?_;refine aU ?_;refine GW.wk (by apply Wk.o9 (t:=3) (i:=0) <;> rfl) ?_;simp only [oset,bj];exact av
theorem SZ (x:Go.Sp.Fn) (hp:x.params.length<=1048576):GF Tryz.prog 62 [.agg (au x)] [] (.agg (au x)) []:=by
 have h0:=ym x.params hp;refine ai Tryz.func62 Tryz.ntmps62 ?_;refine U [] (h0) ?_;exact df
theorem QC (l:List Go.Sp.Fn) (hl:l.length<=1048576) (he:∀ x∈l,x.params.length<=1048576):GF Tryz.prog 34 [.sl 3 (l.map au)] [] (.sl 3 (l.map au)) []:=by
 have hm:(l.map au).length=l.length:=by simp
 refine ai Tryz.func34 Tryz.ntmps34 ?_;refine GL.yg rfl ⟨by omega,by omega⟩ ?_;intro a c;refine cL ?_;refine ab ?_;refine GW.loop (fun k:Nat=>l.length - k) (fun k fr Γ=>∃ R Z,fr=[.sl 3 (l.map au),.Zy,.Zy,.v (.slice a (l.map au).length c),.v (ii (k:Nat)),.Zy,.Zy,.Zy,.Zy,.Zy,.Zy,.Zy,.Zy,.Zy,.Zy,.Zy,.Zy,.Zy,.Zy,.Zy,.Zy,.Zy,.Zy]/\Γ=[.vech 85 3 R (.slice a (l.map au).length c)]/\k<=l.length/\R=(l.take k).map au++List.replicate (l.length - k) Z) 0 ?_ ?_
 ·exact ⟨_,_,Wk.ax al,_,_,rfl,rfl,Nat.zero_le _,by rw [hm];rfl⟩
 rintro k _ _ ⟨R,Z,rfl,rfl,hk,hR⟩
 have mA:R.length=l.length:=by rw [hR];exact kq hk
 have ew:R.length=(l.map au).length:=by rw [hm];exact mA
 by_cases aq:k < l.length
 ·have hx:l[k]?=some l[k]:=by simp [aq]
  have hr:(l.map au)[k]?=some (au l[k]):=by rw [getElem?_map,hx];rfl
  have dk:decide ((k:Int) < ((l.map au).length:Int))=true:=by rw [hm];simpa using aq
  have cl:=kr (f:=au) (Z:=Z) hx;rw [<-hR] at cl;have hex:=he _ (mem_of_getElem? hx);have hc:=SZ l[k] hex;clear hR;generalize l[k]=x at *;refine ab ?_;refine U [] (hc) ?_;refine jK ?_;refine ab ?_;exact ⟨k+1,⟨_,_,Wk.ax al,_,Z,rfl,rfl,aq,cl⟩,by show l.length - (k+1) < l.length - k;omega⟩
 ·have dk:decide ((k:Int) < ((l.map au).length:Int))=false:=by rw [hm];simpa using aq
  have kQ:k=l.length:=by omega
  subst kQ;rw [kp] at hR;subst hR;refine ab ?_;refine aU ?_;refine GW.wk (by apply Wk.o9 (t:=3) (i:=0) <;> rfl) ?_;simp only [oset,bj];exact av
theorem NU (x:Nd) (hp:x.kids.length<=1048576):GF Tryz.prog 63 [.agg (aw x)] [] (.agg (aw x)) []:=by
 have h0:=NS x.kids hp;refine ai Tryz.func63 Tryz.ntmps63 ?_;refine U [] (h0) ?_;exact df
theorem LO (l:List Nd) (hl:l.length<=1048576) (he:∀ x∈l,x.kids.length<=1048576):GF Tryz.prog 35 [.sl 5 (l.map aw)] [] (.sl 5 (l.map aw)) []:=by
 have hm:(l.map aw).length=l.length:=by simp
 refine ai Tryz.func35 Tryz.ntmps35 ?_;refine GL.yg rfl ⟨by omega,by omega⟩ ?_;intro a c;refine cL ?_;refine ab ?_;refine GW.loop (fun k:Nat=>l.length - k) (fun k fr Γ=>∃ R Z,fr=[.sl 5 (l.map aw),.Zy,.Zy,.v (.slice a (l.map aw).length c),.v (ii (k:Nat)),.Zy,.Zy,.Zy,.Zy,.Zy,.Zy,.Zy,.Zy,.Zy,.Zy,.Zy,.Zy,.Zy,.Zy,.Zy,.Zy,.Zy,.Zy]/\Γ=[.vech 53 5 R (.slice a (l.map aw).length c)]/\k<=l.length/\R=(l.take k).map aw++List.replicate (l.length - k) Z) 0 ?_ ?_
 ·exact ⟨_,_,Wk.ax al,_,_,rfl,rfl,Nat.zero_le _,by rw [hm];rfl⟩
 rintro k _ _ ⟨R,Z,rfl,rfl,hk,hR⟩
 have mA:R.length=l.length:=by rw [hR];exact kq hk
 have ew:R.length=(l.map aw).length:=by rw [hm];exact mA
 by_cases aq:k < l.length
 ·have hx:l[k]?=some l[k]:=by simp [aq]
  have hr:(l.map aw)[k]?=some (aw l[k]):=by rw [getElem?_map,hx];rfl
  have dk:decide ((k:Int) < ((l.map aw).length:Int))=true:=by rw [hm];simpa using aq
  have cl:=kr (f:=aw) (Z:=Z) hx;rw [<-hR] at cl;have hex:=he _ (mem_of_getElem? hx);have hc:=NU l[k] hex;clear hR;generalize l[k]=x at *;refine ab ?_;refine U [] (hc) ?_;refine jK ?_;refine ab ?_;exact ⟨k+1,⟨_,_,Wk.ax al,_,Z,rfl,rfl,aq,cl⟩,by show l.length - (k+1) < l.length - k;omega⟩
 ·have dk:decide ((k:Int) < ((l.map aw).length:Int))=false:=by rw [hm];simpa using aq
  have kQ:k=l.length:=by omega
  subst kQ;rw [kp] at hR;subst hR;refine ab ?_;refine aU ?_;refine GW.wk (by apply Wk.o9 (t:=3) (i:=0) <;> rfl) ?_;simp only [oset,bj];exact av
theorem I2 (x:Src) (hg:x.globals.length<=1048576) (ha:x.arrays.length<=1048576) (hf:x.fns.length<=1048576) (zB:∀ f∈x.fns,f.params.length<=1048576) (hn:x.nodes.length<=1048576) (wF:∀ n∈x.nodes,n.kids.length<=1048576):GF Tryz.prog 10 [.agg (ar x)] [] (.agg (ar x)) []:=by
 have h0:=ym x.globals hg;have h1:=I0 x.arrays ha;have h2:=QC x.fns hf zB;have h3:=LO x.nodes hn wF;refine ai Tryz.func10 Tryz.ntmps10 ?_;refine U [] (h0) ?_;refine U [] (h1) ?_;refine U [] (h2) ?_;refine U [] (h3) ?_;exact df
end Go.Xg
namespace Go.Xg
open Go.RowKit Go.Xw
def Ob.mi:Ob->Bool
 | .vech _ _ _ _=>true
 | _=>false
def o7 (β:Bt) (aK:List Nat):Bt:=fun j=>match aK[j]? with
 | some i=>β i
 | none=>.no
section
variable {B:Bs} {K:Fz} {β:Bt} {Γ:List Ob} {w:World}
theorem aV.qH {K:Fz} {β bP:Bt} {vs:List Value} {gs:List GV} (h:aV K β vs gs) (hp:∀ g∈gs,g.pc=true):aV K bP vs gs:=⟨h.1,fun i v g h1 h2=>(h.2 i v g h1 h2).pc (hp g (mem_of_getElem? h2))⟩
theorem fM.flat {k:Nat} {rows:List (List GV)} (h:fM k rows):∀ g∈rows.flatten,g.pc=true:=fun g hg=>by
 obtain ⟨r,h1,h2⟩:=List.mem_flatten.1 hg;exact (h r h1).2 g h2
theorem Inv.pick (h:Inv B K β Γ w) (hm:B.m=0) {aK:List Nat} {Δ:List Ob} (hl:Δ.length=aK.length) (hn:aK.Nodup)
  (hx:∀ (j:Nat) x,Δ[j]?=some x->x.mi=true/\∀ i,aK[j]?=some i->Γ[i]?=some x):Inv B K (o7 β aK) Δ w:=by
 have hb:∀ i b,(o7 β aK i).blk=some b->∃ q,aK[i]?=some q/\(β q).blk=some b:=fun i b hi=>by
  unfold o7 at hi
  cases hs:aK[i]? with
  | none=>rw [hs] at hi;cases hi
  | some q=>rw [hs] at hi;exact ⟨q,rfl,hi⟩
 refine ⟨h.ext,h.kle,fun i=>by rw [h.loc i ah];trivial,h.loc,h.fz,fun i x hi=>?_,fun i hi=>?_,fun i j b hi hj=>?_,fun i b hi=>?_,h.kn,h.tab.step (S:=gX) (Ext.refl w) (fun _ h=>h.elim) (cm.refl K) (fun i b2 h2=>?_)⟩
 ·obtain ⟨h1,h2⟩:=hx i x hi;have aq:=(List.getElem?_eq_some_iff.1 hi).1;have hs:aK[i]?=some (aK[i]'ah):=getElem?_eq_getElem _
  cases x with
  | vech E k rows v =>
   obtain ⟨xs,e1,e2,e3,e4,e5⟩:=h.ob _ _ (h2 _ hs);refine ⟨xs,?_,e2,e3.qH e4.flat,e4,e5⟩;show o7 β aK i=_;unfold o7;rw [hs];exact e1
  | _=>cases h1
 ·unfold o7;rw [List.getElem?_eq_none ah]
 ·obtain ⟨q,h1,h2⟩:=hb i b hi;obtain ⟨r,h3,h4⟩:=hb j b hj;have:=h.dis q r b h2 h4;subst this;obtain ⟨a1,a2⟩:=List.getElem?_eq_some_iff.1 h1;obtain ⟨b1,b2⟩:=List.getElem?_eq_some_iff.1 h3;exact (List.getElem_inj hn).1 (a2.trans b2.symm)
 ·obtain ⟨q,h1,h2⟩:=hb i b hi;exact h.own q b h2
 ·obtain ⟨q,h3,h4⟩:=hb i b2 h2;exact .inl ⟨q,h4⟩
theorem Inv.view {i E k:Nat} {rows:List (List GV)} {x:Value} (h:Inv B K β Γ w) (hi:Γ[i]?=some (.vech E k rows x)):∃ K1,cm K K1/\iI K1 w/\gB K1 (fun _=>.no) w/\Rel K1 (fun _=>.no) x (.sl k rows):=by
 obtain ⟨K',hK,hr,be⟩:=h.rh hi;exact ⟨K',hK,be.fz,⟨be.tab.le,be.tab.pow,be.tab.spc,fun i b h=>by cases h⟩,hr.pc rfl⟩
theorem Inv.Ww (h:Inv B K β Γ w):gB K (fun _=>.no) w:=⟨h.tab.le,h.tab.pow,h.tab.spc,fun i b h=>by cases h⟩
theorem Inv.new (h:iI K w) (ht:gB K (fun _=>.no) w):Inv ⟨w,gX,K,fun _=>.no,0⟩ K (fun _=>.no) [] w :=
 ⟨Ext.refl w,cm.refl _,dc.refl _,fun _ _=>rfl,h,fun i x h=>by simp at h,fun _ _=>rfl,fun i j b h=>(by cases h),fun i b h=>(by cases h),fun b o g h=>.inl h,ht⟩
theorem Inv.IP {i idx o j E k T k':Nat} {rows ks:List (List GV)} {x h:Value} {r:List GV} (hI:Inv B K β Γ w) (hi:Γ[i]?=some (.vech T k rows h)) (hr:rows[idx]?=some r) (ho:r[o]?=some (.v x)) (bO:i≠j) (hj:Γ[j]?=some (.vech E k' ks x)) :
  ∃ K',cm K K'/\Inv B K' β (oset (oset Γ j (.vec E k' ks.length ks)) i (.vech T k (dw rows idx o (.sl k' ks)) h)) w:=by
 obtain ⟨K',hK,eG,be⟩:=hI.rh hj;obtain ⟨xs,h1,h2,h3,h4,h5⟩:=be.ob i (.vech T k rows h) (by rw [aX,getElem?_set,if_neg (fun e=>bO e.symm)];exact hi);have aq:=(List.getElem?_eq_some_iff.1 hr).1
 have zI:o < k:=by rw [<-(h4 r (mem_of_getElem? hr)).1];exact (List.getElem?_eq_some_iff.1 ho).1
 exact ⟨K',hK,be.swap ⟨xs,by rw [fk];exact h1,by rw [fk];exact h2,by rw [tu zI h4 aq];exact aV.bj eG h3 (sw h4 hr ho),xB rfl h4,h5⟩⟩
theorem rv {rows:List (List GV)} {i o:Nat} {g:GV} {r:List GV} (hr:rows[i]?=some r):∀ q,(dw rows i o g)[q]?=if q=i then some (bj r o g) else rows[q]?:=by
 induction rows generalizing i with
 | nil=>simp at hr
 | cons x rs ih =>
  intro q
  cases i with
  | zero =>
   cases hr
   cases q with
   | zero=>simp [dw]
   | succ q=>simp [dw]
  | succ i =>
   cases q with
   | zero=>simp [dw]
   | succ q =>
    have:=ih (by simpa using hr) q;simp only [dw,List.getElem?_cons_succ,this]
    by_cases h:q=i
    ·simp [h]
    ·simp [h]
theorem Inv.Ek {T k o E k' jf N:Nat} {h:Value} {raw fin:Nat->List GV} {ks:Nat->List (List GV)} {hd:Nat->Value} {jp:Nat->Nat} (hI:Inv B K β Γ w) {CL:List (List GV)} (Xv:Γ[jf]?=some (.vech T k CL h)) (h0:CL.length=N/\∀ i,i < N->CL[i]?=some (raw i))
  (V8:∀ i,i < N->(raw i)[o]?=some (.v (hd i))/\bj (raw i) o (.sl k' (ks i))=fin i) (jD:∀ i,i < N->Γ[jp i]?=some (.vech E k' (ks i) (hd i))) (bO:∀ i,i < N->jp i≠jf) (Ds:∀ i i',i < N->i' < N->jp i=jp i'->i=i') :
  ∃ K' aH rows,cm K K'/\Inv B K' β aH w/\aH[jf]?=some (.vech T k rows h)/\rows.length=N/\(∀ i,i < N->rows[i]?=some (fin i))/\∀ q,q≠jf->(∀ i,i < N->q≠jp i)->aH[q]?=Γ[q]?:=by
 have key:∀ n,n<=N->∃ K' aH rows,cm K K'/\Inv B K' β aH w/\aH[jf]?=some (.vech T k rows h)/\rows.length=N/\(∀ i,i < n->rows[i]?=some (fin i))/\(∀ i,n<=i->i < N->rows[i]?=some (raw i))/\(∀ i,n<=i->i < N->aH[jp i]?=some (.vech E k' (ks i) (hd i)))/\∀ q,q≠jf->(∀ i,i < N->q≠jp i)->aH[q]?=Γ[q]?:=by
  intro n
  induction n with
  | zero=>intro _;exact ⟨K,Γ,CL,cm.refl K,hI,Xv,h0.1,fun i h=>by omega,fun i _ h=>h0.2 i h,fun i _ h=>jD i h,fun _ _ _=>rfl⟩
  | succ n ih =>
   intro hn;obtain ⟨K',aH,rows,a1,a2,a3,a4,a5,a6,a7,a8⟩:=ih ah;have hr:=a6 n (Nat.le_refl _) ah;obtain ⟨c1,c2⟩:=V8 n ah;obtain ⟨K2,b1,b2⟩:=a2.IP a3 hr c1 (fun e=>bO n ah e.symm) (a7 n (Nat.le_refl _) ah);have aq:=(List.getElem?_eq_some_iff.1 a3).1;refine ⟨K2,_,dw rows n o (.sl k' (ks n)),a1.trans b1,b2,?_,by rw [fk];exact a4,fun i hi=>?_,fun i hi Kr=>?_,fun i hi Kr=>?_,fun q hq UU=>?_⟩
   ·rw [aX,aX,getElem?_set];simp [aq]
   ·rw [rv hr,c2]
    by_cases e:i=n
    ·rw [if_pos e,e]
    ·rw [if_neg e];exact a5 i ah
   ·rw [rv hr,if_neg ah];exact a6 i ah Kr
   ·rw [aX,aX,getElem?_set,if_neg (fun e=>bO i Kr e.symm),getElem?_set,if_neg (fun e=>by have:=Ds n i ah Kr e;omega)];exact a7 i ah Kr
   ·rw [aX,aX,getElem?_set,if_neg (fun e=>hq e.symm),getElem?_set,if_neg (fun e=>UU n ah e.symm)];exact a8 q hq UU
 obtain ⟨K',aH,rows,a1,a2,a3,a4,a5,_,_,a8⟩:=key N (Nat.le_refl _);exact ⟨K',aH,rows,a1,a2,a3,a4,a5,a8⟩
end
section
variable {P:Program} {fn:Func} {R:GV->List Ob->Prop} {fr:List GV} {Γ:List Ob} {e:Exit}
theorem Tu {t:Tmp} {x:Value} (aK:List Nat) (Δ:List Ob) (hr:fn.results=#[.tmp t]) (he:e=.normal\/e=.ret) (hg:cj fr t=.v x) (hl:Δ.length=aK.length) (hn:aK.Nodup)
  (hx:∀ (j:Nat) x,Δ[j]?=some x->x.mi=true/\∀ i,aK[j]?=some i->Γ[i]?=some x) (h:R (.v x) Δ):rR P fn 0 R e fr Γ :=
 ⟨he,fun B K β w l hB hI hF=>⟨nth l t,K,o7 β aK,.v x,Δ,by rw [results_tmp hr,jm],hI.pick hB hl hn hx,by have:=hF.nth t;rw [hg] at this;rw [Rel.eT this];exact .v _,h⟩⟩
theorem Tv {t:Tmp} {T:TypeId} {k:Nat} [hT:Ty P T true k] {i:Nat} {E:TypeId} {cs:List GV} (aK:List Nat) (Δ:List Ob) (hr:fn.results=#[.cell t T]) (he:e=.normal\/e=.ret) (hg:cj fr t=.loc i 0) (br:Γ[i]?=some (.box E cs)) (hk:cs.length=k) (hp:qH cs=true)
  (hl:Δ.length=aK.length) (hn:aK.Nodup) (hx:∀ (j:Nat) x,Δ[j]?=some x->x.mi=true/\∀ i,aK[j]?=some i->Γ[i]?=some x) (h:R (.agg cs) Δ):rR P fn 0 R e fr Γ :=
 ⟨he,fun B K β w l hB hI hF=>by
  obtain ⟨b,vs,h1,h2,h3,h4⟩:=hI.ob i _ br
  have RR:nth l t=.pointer (some ⟨b,0,none⟩):=by
   have:=hF.nth t;rw [hg] at this;generalize nth l t=v at this
   cases this with
   | loc _ _ b' ba=>rw [h1] at ba;cases ba;rfl
  have kB:l.toArray.getD t undef=.pointer (some ⟨b,0,none⟩):=by rw [jm,RR]
  have Dt:=mI (P:=P) (w:=w) (t:=T) (b:=b) (o:=0) (vs:=vs) (k:=k) (by rw [h3.1,hk]) (fun j v hj=>by
   rw [Nat.zero_add,cell_of_row w b j _ E (0,0) h2];simpa using hj)
  have yK:l[t]?.getD undef=.pointer (some ⟨b,0,none⟩):=by simpa using kB
  have h5:aV K (o7 β aK) vs cs:=h3.qH (lU hp)
  exact ⟨.agg vs.toArray,K,o7 β aK,.agg cs,Δ,by simp [results,hr,yK,asAddr,Dt],hI.pick hB hl hn hx,.agg vs cs h5.1 h5.2,h⟩⟩
end
section
variable {P:Program} {fn:Func} {R:GV->List Ob->Prop} {fr:List GV} {Γ:List Ob} {e:Exit}
theorem BD {Γ:List Ob} {n:Nat} (h:∀ x∈Γ.drop n,x.mi=true):(Γ.drop n).length=((List.range (Γ.length - n)).map (·+n)).length/\((List.range (Γ.length - n)).map (·+n)).Nodup /\
  ∀ (j:Nat) x,(Γ.drop n)[j]?=some x->x.mi=true/\∀ i,((List.range (Γ.length - n)).map (·+n))[j]?=some i->Γ[i]?=some x:=by
 refine ⟨by simp,?_,fun j x hj=>⟨h x (mem_of_getElem? hj),fun i hi=>?_⟩⟩
 ·unfold List.Nodup;rw [List.pairwise_map]
  exact List.nodup_range.imp fun bO he=>bO ah
 ·have aq:=(List.getElem?_eq_some_iff.1 hj).1;rw [List.length_drop] at aq;rw [getElem?_map,List.getElem?_range aq] at hi;cases hi;rw [List.getElem?_drop] at hj;show Γ[j+n]?=some x;rw [Nat.add_comm];exact hj
theorem sT {t:Tmp} {x:Value} (n:Nat) (hr:fn.results=#[.tmp t]) (he:e=.normal\/e=.ret) (hg:cj fr t=.v x) (ha:∀ x∈Γ.drop n,x.mi=true) (h:R (.v x) (Γ.drop n)):rR P fn 0 R e fr Γ :=
 have hd:=BD ha
 Tu _ (Γ.drop n) hr he hg hd.1 hd.2.1 hd.2.2 h
theorem HX {t:Tmp} {T:TypeId} {k:Nat} [hT:Ty P T true k] {i:Nat} {E:TypeId} {cs:List GV} (n:Nat) (hr:fn.results=#[.cell t T]) (he:e=.normal\/e=.ret) (hg:cj fr t=.loc i 0) (br:Γ[i]?=some (.box E cs)) (hk:cs.length=k) (hp:qH cs=true)
  (ha:∀ x∈Γ.drop n,x.mi=true) (h:R (.agg cs) (Γ.drop n)):rR P fn 0 R e fr Γ :=
 have hd:=BD ha
 Tv _ (Γ.drop n) hr he hg br hk hp hd.1 hd.2.1 hd.2.2 h
end
section
variable {P:Program} {m:Nat} {Q:dQ} {fr:List GV} {Γ:List Ob} {ops:Array Oper} {rest:List Oper} {d:Option Tmp} {op:Op} {ty:TypeId} {pos:String} {af:Array Edge}
theorem GL.Vr {t:TypeId} {x:Operand} {cs:List GV} (hx:lK (aP fr x)=some cs) (hp:qH cs=true) (h:GL P m ops Q rest (bh fr d (.box cs 0)) Γ):GL P m ops Q (⟨d,.box t x,ty,pos,af,none⟩::rest) fr Γ:=fun B K β w l hm hI hF=>by
 obtain ⟨vs,h1,h2⟩:=(hF.ev x).cells hx
 refine WL.box rfl fun b w' hn=>?_
 rw [h1] at hn;obtain ⟨hle,be⟩:=hI.sS hn h2 (lU hp);exact h B _ β w' _ hm be ((hF.mono hle (dc.refl β)).put d (Rel.box (K:=kl K b cs) (β:=β) b 0 0 cs (fun j g hg=>by rw [Nat.zero_add];exact tW hg)))
theorem GL.borrow {f:FuncId} [hf:aB P f] {args:List Operand} {lR:Array TypeId} {gs:List GV} {v:Value} (hc:GF P f gs [] (.v v) [])
  (hv:∀ B K β w l,Inv B K β Γ w->FR K β fr l->∃ K1,iI K1 w/\gB K1 (fun _=>.no) w/\aV K1 (fun _=>.no) (args.map (ev l)) gs)
  (h:GL P m ops Q rest (bh fr d (.v v)) Γ):GL P m ops Q (⟨d,.call ⟨.value (.func f),args.toArray,lR⟩,ty,pos,af,none⟩::rest) fr Γ:=fun B K β w l hm hI hF=>by
 obtain ⟨K1,h1,h2,h3⟩:=hv B K β w l hI hF
 have qB:(execOp (ev l) ⟨d,.call ⟨.value (.func f),args.toArray,lR⟩,ty,pos,af,none⟩).run P w=.ok (.enter f (args.map (ev l)).toArray) w:=by simp [execOp,resolve,ev,Deferred.ofValue,invoke,kV]
 refine WL.calls qB (hc _ K1 _ w _ rfl (Inv.new h1 h2) h3) ?_;rintro x w' ⟨K',bP,g,aH,be,eG,rfl,rfl⟩;exact h B K β w' _ hm (hI.same be.ext) (hF.put d (by rw [Rel.eT eG];exact .v _))
theorem GL.Pq {f:FuncId} [hf:aB P f] {args:List Operand} {lR:Array TypeId} {gs:List GV} {E k n:Nat} {rows:List (List GV)} (hc:GC P f gs [] fun g Δ=>∃ a c,g=.v (.slice a n c)/\Δ=[.vech E k rows (.slice a n c)])
  (hn:rows.length=n) (jv:∀ r∈rows,∀ g∈r,∃ x,g=.v x)
  (hv:∀ B K β w l,Inv B K β Γ w->FR K β fr l->∃ K1,iI K1 w/\gB K1 (fun _=>.no) w/\aV K1 (fun _=>.no) (args.map (ev l)) gs)
  (h:∀ a c,GL P m ops Q rest (bh fr d (.v (.slice a n c))) (Γ++[.vech E k rows (.slice a n c)])):GL P m ops Q (⟨d,.call ⟨.value (.func f),args.toArray,lR⟩,ty,pos,af,none⟩::rest) fr Γ:=fun B K β w l hm hI hF=>by
 obtain ⟨K1,h1,h2,h3⟩:=hv B K β w l hI hF
 have qB:(execOp (ev l) ⟨d,.call ⟨.value (.func f),args.toArray,lR⟩,ty,pos,af,none⟩).run P w=.ok (.enter f (args.map (ev l)).toArray) w:=by simp [execOp,resolve,ev,Deferred.ofValue,invoke,kV]
 refine WL.calls qB (hc _ K1 _ w _ rfl (Inv.new h1 h2) h3) ?_;rintro x w' ⟨K',bP,g,aH,be,eG,a,c,rfl,rfl⟩;subst hn;obtain ⟨xs,e1,e2,e3,e4,e5⟩:=be.ob 0 _ rfl;have Ze:=hI.same be.ext
 have xt:∀ g∈rows.flatten,∃ x,g=.v x:=fun g hg=>by
  obtain ⟨r,h5,h6⟩:=List.mem_flatten.1 hg;exact jv r h5 g h6
 have hr:aV K β xs rows.flatten:=⟨e3.1,fun i v g h5 h6=>by
  obtain ⟨y,rfl⟩:=xt g (mem_of_getElem? h6)
  rw [Rel.eT (e3.2 i v _ h5 h6)];exact .v _⟩
 have dH:∀ b,(Value.slice a rows.length c).ownBlock=some b->w.heap.size<=b:=fun b hb=>by
  rcases be.own 0 b (by rw [e1];exact hb) with h5 | h5
  ·exact h5.elim
  ·exact h5
 have bV:β Γ.length=.no:=hI.out _ (Nat.le_refl _);have oo:=hI.Aq (w':=w') (x:=.slice a rows.length c) be.ext e2 dH hr e4;have hb:eK β Γ.length (.gr (.slice a rows.length c) rows.length) Γ.length=.gr (.slice a rows.length c) rows.length:=bm;have hle:dc β (eK β Γ.length (.gr (.slice a rows.length c) rows.length)):=gk (by rw [bV];trivial)
 have Ke:=oo.swap (i:=Γ.length) (y:=.vech E k rows (.slice a rows.length c)) ⟨xs,hb,e2,hr.mono (cm.refl K) hle,e4,fun b hb o=>by
  cases hk:K b o with
  | none=>rfl
  | some g=>have:=hI.fz.lt hk;have:=dH b hb;omega⟩
 rw [aX] at Ke;simp only [length_append,length_cons,length_nil,List.set_append_right _ _ (Nat.le_refl _),Nat.sub_self,set_cons_zero] at Ke;exact h a c B K _ w' _ hm Ke ((hF.mono (cm.refl K) hle).put d (by rw [Rel.eT eG];exact .v _))
theorem sx {P:Program} {w:World} {t e ty:TypeId} {i:TypeInfo} (hu:P.underlying t=some (.slice e)) (hi:P.info? e=some i) (a b:Option Addr) (n c d:Nat) (hc:n<=c) :
  (Builtin.append_ #[t,t] ty #[.slice a n c,.slice b 0 d]).run P w=.ok (.slice a n c) w:=by
 cases a <;> cases b <;> simp [Builtin.append_,run_underlying hu,sizeOf,typeInfo,hi,Builtin.lenOf,hc,Builtin.firstCells,loadCells,loadCellsFrom,storeCells]
theorem GL.Tg {s x:Operand} {t e k gx:Nat} [hT:nC P t e k gx] (i:Nat) {dt:Tmp} {v:Value} {rows:List (List GV)} (hx:aP fr x=.sl k []) (hs:aP fr s=.v v) (br:Γ[i]?=some (.vech e k rows v))
  (h:GL P m ops Q rest (bh fr (some dt) (.v v)) Γ):GL P m ops Q (⟨some dt,.call ⟨.builtin .append,#[s,x],#[t,t]⟩,ty,pos,af,none⟩::rest) fr Γ:=fun B K β w l hm hI hF=>by
 obtain ⟨hu,⟨j,z,hi,_⟩,_⟩:=hT.parts;obtain ⟨xs,o1,o2,_⟩:=hI.ob i _ br;have pC:ev l s=v:=hF.gy hs;have sc:=hF.ev x;rw [hx] at sc;generalize qC:ev l x=vx at sc
 obtain ⟨b,d',rfl⟩:∃ b d',vx=.slice b 0 d':=by
  cases sc with
  | sl0 a c k=>exact ⟨a,c,rfl⟩
  | sl b o c _ _ hr _=>exact ⟨_,_,rfl⟩
 obtain ⟨a,n,c,rfl,hc⟩:∃ a n c,v=.slice a n c/\n<=c:=by
  rcases o2.2 with ⟨e1,e2⟩ | ⟨g,cap,cur,e1,_,_,e2,_⟩
  ·exact ⟨_,_,_,e1,Nat.le_refl _⟩
  ·exact ⟨_,_,_,e1,e2⟩
 have l0:=sx (P:=P) (w:=w) (ty:=ty) hu hi a b n c d' hc;exact WL.val (v:=.slice a n c) (w':=w) (by simp [execOp,resolve,invoke,builtin,pC,qC,l0]) (h B K β w _ hm hI (hF.put _ (.v _)))
theorem GL.Tj {s x:Operand} {t e k gx:Nat} [hT:nC P t e k gx] {i n fz:Nat} {dt:Tmp} {rows:List (List GV)} (hx:aP fr x=.sl k []) (hs:aP fr s=.vec i n) (br:Γ[i]?=some (.vec e k fz rows)) (hn:rows.length=n)
  (h:GL P m ops Q rest (bh fr (some dt) (.vec i n)) Γ):GL P m ops Q (⟨some dt,.call ⟨.builtin .append,#[s,x],#[t,t]⟩,ty,pos,af,none⟩::rest) fr Γ:=fun B K β w l hm hI hF=>by
 subst hn;obtain ⟨hu,⟨j,z,hi,_⟩,_⟩:=hT.parts;obtain ⟨h0,xs,o1,o2,_⟩:=hI.ob i _ br;have r7:=hF.ev s;rw [hs] at r7
 have pC:ev l s=h0:=by
  generalize hv:ev l s=v at r7
  cases r7 with
  | vec _ _ a c hh =>
   obtain ⟨h',m',e1,e2,e3⟩:=hh;rw [o1] at e1;cases e1;exact e3 rfl
 have sc:=hF.ev x;rw [hx] at sc;generalize qC:ev l x=vx at sc
 obtain ⟨b,d',rfl⟩:∃ b d',vx=.slice b 0 d':=by
  cases sc with
  | sl0 a c k=>exact ⟨a,c,rfl⟩
  | sl b o c _ _ hr _=>exact ⟨_,_,rfl⟩
 obtain ⟨a,n,c,rfl,hc⟩:∃ a n c,h0=.slice a n c/\n<=c:=by
  rcases o2.2 with ⟨e1,e2⟩ | ⟨g,cap,cur,e1,_,_,e2,_⟩
  ·exact ⟨_,_,_,e1,Nat.le_refl _⟩
  ·exact ⟨_,_,_,e1,e2⟩
 have l0:=sx (P:=P) (w:=w) (ty:=ty) hu hi a b n c d' hc;exact WL.val (v:=.slice a n c) (w':=w) (by simp [execOp,resolve,invoke,builtin,pC,qC,l0]) (h B K β w _ hm hI (hF.put _ (by have:=hF.ev s;rw [hs,pC] at this;exact this)))
theorem Ce {Γ:List Ob} {i:Nat} {x:Ob} (h:Γ[i]?=some x):oset Γ i x=Γ:=by
 rw [aX];apply List.ext_getElem?;intro j;rw [getElem?_set]
 by_cases e:i=j
 ·subst e;have:=(List.getElem?_eq_some_iff.1 h).1;rw [if_pos rfl,if_pos this,h]
 ·rw [if_neg e]
theorem GL.zi {s x:Operand} {t e k gx:Nat} [hT:nC P t e k gx] (i:Nat) {n:Nat} {dt:Tmp} {a0:Option Addr} {c0:Nat} {rows news:List (List GV)} (hx:aP fr x=.sl k news) (hs:aP fr s=.v (.slice a0 n c0)) (br:Γ[i]?=some (.vech e k rows (.slice a0 n c0))) (hn:rows.length=n) (h1:ml news=true)
  (hb:n+news.length<=9223372036854775807/\(n+news.length) * gx<=140737488355328)
  (h:∀ a c,GL P m ops Q rest (bh fr (some dt) (.v (.slice a (n+news.length) c))) (oset Γ i (.vech e k (rows++news) (.slice a (n+news.length) c)))) :
  GL P m ops Q (⟨some dt,.call ⟨.builtin .append,#[s,x],#[t,t]⟩,ty,pos,af,none⟩::rest) fr Γ:=by
 cases news with
 | nil =>
  have h0:=h a0 c0;rw [append_nil,show n+([]:List (List GV)).length=n from rfl,Ce br] at h0;exact GL.Tg i hx hs br h0
 | cons r rs=>exact GL.n5 i hx hs br hn h1 rfl hb h
theorem GL.zj {s x:Operand} {t e k gx:Nat} [hT:nC P t e k gx] {i n fz:Nat} {dt:Tmp} {rows news:List (List GV)} (hx:aP fr x=.sl k news) (hs:aP fr s=.vec i n) (br:Γ[i]?=some (.vec e k fz rows)) (hn:rows.length=n) (h1:ml news=true)
  (hb:n+news.length<=9223372036854775807/\(n+news.length) * gx<=140737488355328)
  (h:GL P m ops Q rest (bh fr (some dt) (.vec i (n+news.length))) (oset Γ i (.vec e k fz (rows++news)))) :
  GL P m ops Q (⟨some dt,.call ⟨.builtin .append,#[s,x],#[t,t]⟩,ty,pos,af,none⟩::rest) fr Γ:=by
 cases news with
 | nil =>
  rw [append_nil,show n+([]:List (List GV)).length=n from rfl,Ce br] at h;exact GL.Tj hx hs br hn h
 | cons r rs=>exact GL.app hx hs br hn h1 rfl hb h
theorem Lw:∀ (us vs:List Value),vs.length=us.length->gi vs 0 us=us:=by
 have key:∀ (us a vs:List Value),vs.length=us.length->gi (a++vs) a.length us=a++us:=by
  intro us
  induction us with
  | nil=>intro a vs h;rw [List.eq_nil_of_length_eq_zero h];rfl
  | cons u us ih =>
   intro a vs h
   cases vs with
   | nil=>simp at h
   | cons v vs =>
    have hu:eF (a++v::vs) a.length u=(a++[u])++vs:=by
     clear ih h
     induction a with
     | nil=>rfl
     | cons x a ih=>rw [cons_append,length_cons,eF,ih];rfl
    have:=ih (a++[u]) vs (by simpa using h);rw [length_append,List.length_singleton] at this;rw [gi,hu,this];simp
 intro us vs h;exact key us [] vs h
theorem GL.Wq {t:TypeId} {z:Value} {agg:Bool} {k:Nat} [hZ:qt P t z] [hT:Ty P t agg k] {dt ts:Tmp} {cs:List GV} {Yy:TypeId} {Wu:String} {WK:Array Edge} {d2:Option Tmp} (X4:z.cells.size=k) (hy:lK (cj fr ts)=some cs) (bO:Nat.beq ts dt=false) (gz:iT fr dt=true) (hk:cs.length=k) (h1:lE cs=true) (hp:qH cs=true)
  (h:GL P m ops Q rest (bh (bh fr (some dt) (.box cs 0)) d2 (.v undef)) Γ):GL P m ops Q (⟨some dt,.alloc t,ty,pos,af,none⟩::⟨d2,.store t (.tmp dt) (.tmp ts),Yy,Wu,WK,none⟩::rest) fr Γ:=fun B K β w l hm hI hF=>by
 refine WL.alloc (z:=z) fun b w1 hn=>?_
 obtain ⟨us,jA,jY⟩:=(hF.nth ts).cells hy
 have Dx:ts≠dt:=by intro e;subst e;simp at bO
 have R9:ev (put l (some dt) (.pointer (some ⟨b,0,none⟩))) (.tmp ts)=nth l ts:=nf Dx _;have Gv:ev (put l (some dt) (.pointer (some ⟨b,0,none⟩))) (.tmp dt)=.pointer (some ⟨b,0,none⟩):=rq (lM hF gz) _
 have BU:us.length=k:=by rw [jY.1,hk]
 refine WL.st (t:=t) (k:=k) Gv R9 hn.blk (by rw [jA];simpa using BU) ah (by rw [jA];simpa using jY.kR h1) fun w2 hs=>?_
 have cl:tO z.cells 0 us=us.toArray:=by
  have:=tw us z.cells.toList 0;rw [Lw us _ (by rw [Array.length_toList,X4,BU])] at this;simpa using this
 rw [jA,toList_toArray,cl] at hs;have V3:tU w w2 b (.cells us.toArray t):=⟨hn.fresh,by rw [hs.size];exact hn.size,hs.blk,hn.ext.step hs.ext fun j hj=>.inl (by subst hj;rw [hn.fresh];exact Nat.le_refl _)⟩;obtain ⟨hle,be⟩:=hI.sS V3 jY (lU hp);exact h B _ β w2 _ hm be (((hF.mono hle (dc.refl β)).put (some dt) (Rel.box (K:=kl K b cs) (β:=β) b 0 0 cs (fun j g hg=>by rw [Nat.zero_add];exact tW hg))).put d2 (.v _))
end
end Go.Xg
namespace Go.Xg
open Go.RowKit Go.Xw Go.Proofs
open Go.Xp (Nd Ar)
open Go.Sp (Src)
open Go.Im (kr kq kp)
attribute [local irreducible] GW GL GO YG GC GA aS aW
def aZ (l:List ae):List (List GV):=l.map fun s=>[GV.v (sv s)]
def AX (l:List Int):List (List GV):=l.map fun i=>[GV.v (ii i)]
def Hd (n:Nat) (h:Value):Prop:=∃ a c,h=.slice a n c
theorem yn (l:List ae) (hl:l.length<=1048576):GC Tryz.prog 32 [strs l] [] fun g Δ=>∃ h,Hd l.length h/\g=.v h/\Δ=[.vech 9 1 (aZ l) h]:=by
 have hm:(l.map (fun s=>[GV.v (sv s)])).length=l.length:=by simp
 refine ai Tryz.func32 Tryz.ntmps32 ?_;refine GL.yg rfl ⟨by omega,by omega⟩ ?_;intro a c;refine cL ?_;refine ab ?_;refine GW.loop (fun k:Nat=>l.length - k) (fun k fr Γ=>∃ R Z,fr=[strs l,.Zy,.Zy,.v (.slice a (l.map (fun s=>[GV.v (sv s)])).length c),.v (ii (k:Nat)),.Zy,.Zy,.Zy,.Zy,.Zy,.Zy,.Zy,.Zy,.Zy,.Zy,.Zy,.Zy,.Zy,.Zy,.Zy,.Zy,.Zy]/\Γ=[.vech 9 1 R (.slice a (l.map (fun s=>[GV.v (sv s)])).length c)]/\k<=l.length/\R=(l.take k).map (fun s=>[GV.v (sv s)])++List.replicate (l.length - k) Z) 0 ?_ ?_
 ·exact ⟨_,_,Wk.ax al,_,_,rfl,rfl,Nat.zero_le _,by rw [hm];rfl⟩
 rintro k _ _ ⟨R,Z,rfl,rfl,hk,hR⟩
 have mA:R.length=l.length:=by rw [hR];exact kq hk
 have ew:R.length=(l.map (fun s=>[GV.v (sv s)])).length:=by rw [hm];exact mA
 by_cases aq:k < l.length
 ·have hx:l[k]?=some l[k]:=by simp [aq]
  have hr:(l.map (fun s=>[GV.v (sv s)]))[k]?=some ((fun s=>[GV.v (sv s)]) l[k]):=by rw [getElem?_map,hx];rfl
  have dk:decide ((k:Int) < ((l.map (fun s=>[GV.v (sv s)])).length:Int))=true:=by rw [hm];simpa using aq
  have cl:=kr (f:=(fun s=>[GV.v (sv s)])) (Z:=Z) hx;rw [<-hR] at cl;clear hR;generalize l[k]=x at *;refine ab ?_;refine jK ?_;refine ab ?_;exact ⟨k+1,⟨_,_,Wk.ax al,_,Z,rfl,rfl,aq,cl⟩,by show l.length - (k+1) < l.length - k;omega⟩
 ·have dk:decide ((k:Int) < ((l.map (fun s=>[GV.v (sv s)])).length:Int))=false:=by rw [hm];simpa using aq
  have kQ:k=l.length:=by omega
  subst kQ;rw [kp] at hR;subst hR;refine ab ?_;refine aU ?_;refine ab ?_
  (repeat (first | refine GW.ret ?_ | refine cI ?_ | refine cH ?_ | refine aL ?_ | refine bX ?_))
  exact sT 0 rfl (by first | exact .inr rfl | exact .inl rfl) rfl (fun x hx=>by rw [List.mem_singleton.1 hx];rfl) ⟨_,⟨_,_,by rw [hm]⟩,rfl,rfl⟩
theorem NT (l:List Int) (hl:l.length<=1048576):GC Tryz.prog 82 [ints l] [] fun g Δ=>∃ h,Hd l.length h/\g=.v h/\Δ=[.vech 3 1 (AX l) h]:=by
 have hm:(l.map (fun i=>[GV.v (ii i)])).length=l.length:=by simp
 refine ai Tryz.func82 Tryz.ntmps82 ?_;refine GL.yg rfl ⟨by omega,by omega⟩ ?_;intro a c;refine cL ?_;refine ab ?_;refine GW.loop (fun k:Nat=>l.length - k) (fun k fr Γ=>∃ R Z,fr=[ints l,.Zy,.Zy,.v (.slice a (l.map (fun i=>[GV.v (ii i)])).length c),.v (ii (k:Nat)),.Zy,.Zy,.Zy,.Zy,.Zy,.Zy,.Zy,.Zy,.Zy,.Zy,.Zy,.Zy,.Zy,.Zy,.Zy,.Zy,.Zy]/\Γ=[.vech 3 1 R (.slice a (l.map (fun i=>[GV.v (ii i)])).length c)]/\k<=l.length/\R=(l.take k).map (fun i=>[GV.v (ii i)])++List.replicate (l.length - k) Z) 0 ?_ ?_
 ·exact ⟨_,_,Wk.ax al,_,_,rfl,rfl,Nat.zero_le _,by rw [hm];rfl⟩
 rintro k _ _ ⟨R,Z,rfl,rfl,hk,hR⟩
 have mA:R.length=l.length:=by rw [hR];exact kq hk
 have ew:R.length=(l.map (fun i=>[GV.v (ii i)])).length:=by rw [hm];exact mA
 by_cases aq:k < l.length
 ·have hx:l[k]?=some l[k]:=by simp [aq]
  have hr:(l.map (fun i=>[GV.v (ii i)]))[k]?=some ((fun i=>[GV.v (ii i)]) l[k]):=by rw [getElem?_map,hx];rfl
  have dk:decide ((k:Int) < ((l.map (fun i=>[GV.v (ii i)])).length:Int))=true:=by rw [hm];simpa using aq
  have cl:=kr (f:=(fun i=>[GV.v (ii i)])) (Z:=Z) hx;rw [<-hR] at cl;clear hR;generalize l[k]=x at *;refine ab ?_;refine jK ?_;refine ab ?_;exact ⟨k+1,⟨_,_,Wk.ax al,_,Z,rfl,rfl,aq,cl⟩,by show l.length - (k+1) < l.length - k;omega⟩
 ·have dk:decide ((k:Int) < ((l.map (fun i=>[GV.v (ii i)])).length:Int))=false:=by rw [hm];simpa using aq
  have kQ:k=l.length:=by omega
  subst kQ;rw [kp] at hR;subst hR;refine ab ?_;refine aU ?_;refine ab ?_
  (repeat (first | refine GW.ret ?_ | refine cI ?_ | refine cH ?_ | refine aL ?_ | refine bX ?_))
  exact sT 0 rfl (by first | exact .inr rfl | exact .inl rfl) rfl (fun x hx=>by rw [List.mem_singleton.1 hx];rfl) ⟨_,⟨_,_,by rw [hm]⟩,rfl,rfl⟩
theorem I1 (l:List Ar) (hl:l.length<=1048576):GC Tryz.prog 33 [.sl 2 (l.map az)] [] fun g Δ=>∃ h,Hd l.length h/\g=.v h/\Δ=[.vech 86 2 (List.map az l) h]:=by
 have hm:(l.map (az)).length=l.length:=by simp
 refine ai Tryz.func33 Tryz.ntmps33 ?_;refine GL.yg rfl ⟨by omega,by omega⟩ ?_;intro a c;refine cL ?_;refine ab ?_;refine GW.loop (fun k:Nat=>l.length - k) (fun k fr Γ=>∃ R Z,fr=[.sl 2 (l.map az),.Zy,.Zy,.v (.slice a (l.map (az)).length c),.v (ii (k:Nat)),.Zy,.Zy,.Zy,.Zy,.Zy,.Zy,.Zy,.Zy,.Zy,.Zy,.Zy,.Zy,.Zy,.Zy,.Zy,.Zy,.Zy,.Zy]/\Γ=[.vech 86 2 R (.slice a (l.map (az)).length c)]/\k<=l.length/\R=(l.take k).map (az)++List.replicate (l.length - k) Z) 0 ?_ ?_
 ·exact ⟨_,_,Wk.ax al,_,_,rfl,rfl,Nat.zero_le _,by rw [hm];rfl⟩
 rintro k _ _ ⟨R,Z,rfl,rfl,hk,hR⟩
 have mA:R.length=l.length:=by rw [hR];exact kq hk
 have ew:R.length=(l.map (az)).length:=by rw [hm];exact mA
 by_cases aq:k < l.length
 ·have hx:l[k]?=some l[k]:=by simp [aq]
  have hr:(l.map (az))[k]?=some ((az) l[k]):=by rw [getElem?_map,hx];rfl
  have dk:decide ((k:Int) < ((l.map (az)).length:Int))=true:=by rw [hm];simpa using aq
  have cl:=kr (f:=(az)) (Z:=Z) hx;rw [<-hR] at cl;have hc:=Ct l[k];clear hR;generalize l[k]=x at *;refine ab ?_;refine U [] (hc) ?_;refine jK ?_;refine ab ?_;exact ⟨k+1,⟨_,_,Wk.ax al,_,Z,rfl,rfl,aq,cl⟩,by show l.length - (k+1) < l.length - k;omega⟩
 ·have dk:decide ((k:Int) < ((l.map (az)).length:Int))=false:=by rw [hm];simpa using aq
  have kQ:k=l.length:=by omega
  subst kQ;rw [kp] at hR;subst hR;refine ab ?_;refine aU ?_;refine ab ?_
  (repeat (first | refine GW.ret ?_ | refine cI ?_ | refine cH ?_ | refine aL ?_ | refine bX ?_))
  exact sT 0 rfl (by first | exact .inr rfl | exact .inl rfl) rfl (fun x hx=>by rw [List.mem_singleton.1 hx];rfl) ⟨_,⟨_,_,by rw [hm]⟩,rfl,rfl⟩
def pd (x:Go.Sp.Fn) (h:Value):List GV:=[.v (sv x.name),.v h,.v (ii x.body)]
def qn (x:Go.Sp.Fn) (h:Value):Ob:=.vech 9 1 (aZ x.params) h
theorem S1 (x:Go.Sp.Fn) (hp:x.params.length<=1048576):GC Tryz.prog 62 [.agg (au x)] [] fun g Δ=>∃ h,Hd x.params.length h/\g=.agg (pd x h)/\Δ=[qn x h]:=by
 have h0:=yn x.params hp;refine ai Tryz.func62 Tryz.ntmps62 ?_;refine bZ [] (h0) ?_;rintro _ _ ⟨_,⟨a1,c1,rfl⟩,rfl,rfl⟩;refine da ?_;refine ab ?_
 (repeat (first | refine GW.ret ?_ | refine cI ?_ | refine cH ?_ | refine aL ?_ | refine bX ?_))
 refine HX 3 rfl (by first | exact .inr rfl | exact .inl rfl) rfl rfl rfl rfl ?_ ?_
 ·intro x hx;rw [List.mem_singleton.1 hx];rfl
 ·exact ⟨_,⟨_,_,rfl⟩,rfl,rfl⟩
theorem QD (l:List Go.Sp.Fn) (hl:l.length<=1048576) (he:∀ x∈l,x.params.length<=1048576):GC Tryz.prog 34 [.sl 3 (l.map au)] [] fun g Δ=>∃ h hs,Hd l.length h/\hs.length=l.length/\(∀ (i:Nat) x y,l[i]?=some x->hs[i]?=some y->Hd x.params.length y)/\g=.v h /\
  Δ=.vech 85 3 (List.zipWith pd l hs) h::List.zipWith qn l hs:=by
 have hm:(l.map au).length=l.length:=by simp
 refine ai Tryz.func34 Tryz.ntmps34 ?_;refine GL.yg rfl ⟨by omega,by omega⟩ ?_;intro a c;refine cL ?_;refine ab ?_
 refine GW.loop (fun k:Nat=>l.length - k) (fun k fr Γ=>∃ R Z hs,fr=[.sl 3 (l.map au),.Zy,.Zy,.v (.slice a (l.map au).length c),.v (ii (k:Nat)),.Zy,.Zy,.Zy,.Zy,.Zy,.Zy,.Zy,.Zy,.Zy,.Zy,.Zy,.Zy,.Zy,.Zy,.Zy,.Zy,.Zy,.Zy]/\Γ=.vech 85 3 R (.slice a (l.map au).length c)::List.zipWith qn (l.take k) hs/\k<=l.length/\hs.length=k /\
  (∀ (i:Nat) x y,l[i]?=some x->hs[i]?=some y->Hd x.params.length y)/\R=List.zipWith pd (l.take k) hs++List.replicate (l.length - k) Z) 0 ?_ ?_
 ·exact ⟨_,_,Wk.ax al,_,_,[],rfl,rfl,Nat.zero_le _,rfl,(fun i x y _ h=>by simp at h),by rw [hm];rfl⟩
 rintro k _ _ ⟨R,Z,hs,rfl,rfl,hk,Dq,Kq,hR⟩
 have mA:R.length=l.length:=by rw [hR,length_append,length_zipWith,length_take,length_replicate];omega
 have ew:R.length=(l.map au).length:=by rw [hm];exact mA
 by_cases aq:k < l.length
 ·have hx:l[k]?=some l[k]:=by simp [aq]
  have hr:(l.map au)[k]?=some (au l[k]):=by rw [getElem?_map,hx];rfl
  have dk:decide ((k:Int) < ((l.map au).length:Int))=true:=by rw [hm];simpa using aq
  have hex:=he _ (mem_of_getElem? hx);have hc:=S1 l[k] hex
  have jz:l.take (k+1)=l.take k++[l[k]]:=by rw [take_add_one,hx];rfl
  have KE:∀ {γ:Type} (f:Go.Sp.Fn->Value->γ) (h:Value),List.zipWith f (l.take (k+1)) (hs++[h])=List.zipWith f (l.take k) hs++[f l[k] h]:=fun f h=>by
   rw [jz,List.zipWith_append (by rw [length_take];omega)];rfl
  have cl:∀ h,R.set k (pd l[k] h)=List.zipWith pd (l.take (k+1)) (hs++[h])++List.replicate (l.length - (k+1)) Z:=fun h=>by
   have hz:(List.zipWith pd (l.take k) hs).length=k:=by rw [length_zipWith,length_take];omega
   rw [hR,KE,show l.length - k=(l.length - (k+1))+1 by omega,List.replicate_succ,List.set_append_right _ _ ah,hz,Nat.sub_self,set_cons_zero];simp
  have MR:∀ h,Hd l[k].params.length h->∀ (i:Nat) x y,l[i]?=some x->(hs++[h])[i]?=some y->Hd x.params.length y:=fun h hh i x y h1 h2=>by
   by_cases hik:i < hs.length
   ·rw [List.getElem?_append_left hik] at h2;exact Kq i x y h1 h2
   ·have h3:=(List.getElem?_eq_some_iff.1 h2).1;rw [length_append,List.length_singleton] at h3
    have:i=k:=by omega
    subst this;rw [getElem?_append_right ah,Dq,Nat.sub_self] at h2;rw [hx] at h1
    cases h1;cases h2;exact hh
  clear hR;have RN:=KE qn;unfold pd qn at hc;generalize XC:l[k]=x at *;refine ab ?_;refine bZ [] (hc) ?_;rintro _ _ ⟨_,⟨a1,c1,rfl⟩,rfl,rfl⟩;refine da ?_;refine ab ?_;refine jK ?_;refine ab ?_;refine ⟨k+1,⟨_,_,Wk.ax al,_,Z,hs++[_],rfl,?_,aq,by simp [Dq],MR _ ⟨a1,c1,rfl⟩,cl _⟩,by show l.length - (k+1) < l.length - k;omega⟩;rw [RN];rfl
 ·have dk:decide ((k:Int) < ((l.map au).length:Int))=false:=by rw [hm];simpa using aq
  have kQ:k=l.length:=by omega
  subst kQ;rw [take_length,Nat.sub_self,List.replicate_zero,append_nil] at hR;subst hR;rw [take_length];refine ab ?_;refine aU ?_;refine ab ?_
  (repeat (first | refine GW.ret ?_ | refine cI ?_ | refine cH ?_ | refine aL ?_ | refine bX ?_))
  refine sT 0 rfl (by first | exact .inr rfl | exact .inl rfl) rfl (fun x hx=>?_) ⟨_,hs,⟨_,_,by rw [hm]⟩,Dq,Kq,rfl,rfl⟩
  rcases List.mem_cons.1 hx with rfl | hx
  ·rfl
  ·obtain ⟨i,hi⟩:=List.getElem?_of_mem hx;rw [List.getElem?_zipWith] at hi;split at hi
   ·cases hi;rfl
   ·cases hi
def kY (x:Nd) (h:Value):List GV:=[.v (ii x.kind),.v (ii x.at_),.v (ii x.n),.v (sv x.s),.v h]
def lX (x:Nd) (h:Value):Ob:=.vech 3 1 (AX x.kids) h
theorem NV (x:Nd) (hp:x.kids.length<=1048576):GC Tryz.prog 63 [.agg (aw x)] [] fun g Δ=>∃ h,Hd x.kids.length h/\g=.agg (kY x h)/\Δ=[lX x h]:=by
 have h0:=NT x.kids hp;refine ai Tryz.func63 Tryz.ntmps63 ?_;refine bZ [] (h0) ?_;rintro _ _ ⟨_,⟨a1,c1,rfl⟩,rfl,rfl⟩;refine da ?_;refine ab ?_
 (repeat (first | refine GW.ret ?_ | refine cI ?_ | refine cH ?_ | refine aL ?_ | refine bX ?_))
 refine HX 3 rfl (by first | exact .inr rfl | exact .inl rfl) rfl rfl rfl rfl ?_ ?_
 ·intro x hx;rw [List.mem_singleton.1 hx];rfl
 ·exact ⟨_,⟨_,_,rfl⟩,rfl,rfl⟩
theorem LP (l:List Nd) (hl:l.length<=1048576) (he:∀ x∈l,x.kids.length<=1048576):GC Tryz.prog 35 [.sl 5 (l.map aw)] [] fun g Δ=>∃ h hs,Hd l.length h/\hs.length=l.length/\(∀ (i:Nat) x y,l[i]?=some x->hs[i]?=some y->Hd x.kids.length y)/\g=.v h /\
  Δ=.vech 53 5 (List.zipWith kY l hs) h::List.zipWith lX l hs:=by
 have hm:(l.map aw).length=l.length:=by simp
 refine ai Tryz.func35 Tryz.ntmps35 ?_;refine GL.yg rfl ⟨by omega,by omega⟩ ?_;intro a c;refine cL ?_;refine ab ?_
 refine GW.loop (fun k:Nat=>l.length - k) (fun k fr Γ=>∃ R Z hs,fr=[.sl 5 (l.map aw),.Zy,.Zy,.v (.slice a (l.map aw).length c),.v (ii (k:Nat)),.Zy,.Zy,.Zy,.Zy,.Zy,.Zy,.Zy,.Zy,.Zy,.Zy,.Zy,.Zy,.Zy,.Zy,.Zy,.Zy,.Zy,.Zy]/\Γ=.vech 53 5 R (.slice a (l.map aw).length c)::List.zipWith lX (l.take k) hs/\k<=l.length/\hs.length=k /\
  (∀ (i:Nat) x y,l[i]?=some x->hs[i]?=some y->Hd x.kids.length y)/\R=List.zipWith kY (l.take k) hs++List.replicate (l.length - k) Z) 0 ?_ ?_
 ·exact ⟨_,_,Wk.ax al,_,_,[],rfl,rfl,Nat.zero_le _,rfl,(fun i x y _ h=>by simp at h),by rw [hm];rfl⟩
 rintro k _ _ ⟨R,Z,hs,rfl,rfl,hk,Dq,Kq,hR⟩
 have mA:R.length=l.length:=by rw [hR,length_append,length_zipWith,length_take,length_replicate];omega
 have ew:R.length=(l.map aw).length:=by rw [hm];exact mA
 by_cases aq:k < l.length
 ·have hx:l[k]?=some l[k]:=by simp [aq]
  have hr:(l.map aw)[k]?=some (aw l[k]):=by rw [getElem?_map,hx];rfl
  have dk:decide ((k:Int) < ((l.map aw).length:Int))=true:=by rw [hm];simpa using aq
  have hex:=he _ (mem_of_getElem? hx);have hc:=NV l[k] hex
  have jz:l.take (k+1)=l.take k++[l[k]]:=by rw [take_add_one,hx];rfl
  have KE:∀ {γ:Type} (f:Nd->Value->γ) (h:Value),List.zipWith f (l.take (k+1)) (hs++[h])=List.zipWith f (l.take k) hs++[f l[k] h]:=fun f h=>by
   rw [jz,List.zipWith_append (by rw [length_take];omega)];rfl
  have cl:∀ h,R.set k (kY l[k] h)=List.zipWith kY (l.take (k+1)) (hs++[h])++List.replicate (l.length - (k+1)) Z:=fun h=>by
   have hz:(List.zipWith kY (l.take k) hs).length=k:=by rw [length_zipWith,length_take];omega
   rw [hR,KE,show l.length - k=(l.length - (k+1))+1 by omega,List.replicate_succ,List.set_append_right _ _ ah,hz,Nat.sub_self,set_cons_zero];simp
  have MR:∀ h,Hd l[k].kids.length h->∀ (i:Nat) x y,l[i]?=some x->(hs++[h])[i]?=some y->Hd x.kids.length y:=fun h hh i x y h1 h2=>by
   by_cases hik:i < hs.length
   ·rw [List.getElem?_append_left hik] at h2;exact Kq i x y h1 h2
   ·have h3:=(List.getElem?_eq_some_iff.1 h2).1;rw [length_append,List.length_singleton] at h3
    have:i=k:=by omega
    subst this;rw [getElem?_append_right ah,Dq,Nat.sub_self] at h2;rw [hx] at h1
    cases h1;cases h2;exact hh
  clear hR;have RN:=KE lX;unfold kY lX at hc;generalize XC:l[k]=x at *;refine ab ?_;refine bZ [] (hc) ?_;rintro _ _ ⟨_,⟨a1,c1,rfl⟩,rfl,rfl⟩;refine da ?_;refine ab ?_;refine jK ?_;refine ab ?_;refine ⟨k+1,⟨_,_,Wk.ax al,_,Z,hs++[_],rfl,?_,aq,by simp [Dq],MR _ ⟨a1,c1,rfl⟩,cl _⟩,by show l.length - (k+1) < l.length - k;omega⟩;rw [RN];rfl
 ·have dk:decide ((k:Int) < ((l.map aw).length:Int))=false:=by rw [hm];simpa using aq
  have kQ:k=l.length:=by omega
  subst kQ;rw [take_length,Nat.sub_self,List.replicate_zero,append_nil] at hR;subst hR;rw [take_length];refine ab ?_;refine aU ?_;refine ab ?_
  (repeat (first | refine GW.ret ?_ | refine cI ?_ | refine cH ?_ | refine aL ?_ | refine bX ?_))
  refine sT 0 rfl (by first | exact .inr rfl | exact .inl rfl) rfl (fun x hx=>?_) ⟨_,hs,⟨_,_,by rw [hm]⟩,Dq,Kq,rfl,rfl⟩
  rcases List.mem_cons.1 hx with rfl | hx
  ·rfl
  ·obtain ⟨i,hi⟩:=List.getElem?_of_mem hx;rw [List.getElem?_zipWith] at hi;split at hi
   ·cases hi;rfl
   ·cases hi
def iD (p:Src) (hg ha hf hn:Value) (fs ns:List Value):List Ob :=
 .vech 9 1 (aZ p.globals) hg::.vech 86 2 (p.arrays.map az) ha::.vech 85 3 (List.zipWith pd p.fns fs) hf::(List.zipWith qn p.fns fs++.vech 53 5 (List.zipWith kY p.nodes ns) hn::List.zipWith lX p.nodes ns)
structure Ap (p:Src) (hg ha hf hn:Value) (fs ns:List Value):Prop where
 g:Hd p.globals.length hg
 a:Hd p.arrays.length ha
 f:Hd p.fns.length hf
 n:Hd p.nodes.length hn
 fl:fs.length=p.fns.length
 nl:ns.length=p.nodes.length
 fh:∀ (i:Nat) x y,p.fns[i]?=some x->fs[i]?=some y->Hd x.params.length y
 nh:∀ (i:Nat) x y,p.nodes[i]?=some x->ns[i]?=some y->Hd x.kids.length y
theorem ze {α:Type} {f:α->Value->Ob} (hf:∀ a h,(f a h).mi=true) {l:List α} {hs:List Value}:∀ x∈List.zipWith f l hs,x.mi=true:=fun x hx=>by
 obtain ⟨i,hi⟩:=List.getElem?_of_mem hx;rw [List.getElem?_zipWith] at hi;split at hi
 ·cases hi;exact hf _ _
 ·cases hi
theorem y7 (p:Src) (hg ha hf hn:Value) (fs ns:List Value):∀ x∈iD p hg ha hf hn fs ns,x.mi=true:=fun x hx=>by
 unfold iD at hx
 rcases List.mem_cons.1 hx with rfl | hx
 ·rfl
 rcases List.mem_cons.1 hx with rfl | hx
 ·rfl
 rcases List.mem_cons.1 hx with rfl | hx
 ·rfl
 rcases List.mem_append.1 hx with hx | hx
 ·exact ze (fun _ _=>rfl) x hx
 rcases List.mem_cons.1 hx with rfl | hx
 ·rfl
 ·exact ze (fun _ _=>rfl) x hx
theorem EU {α:Type} {f:α->Value->Ob} (hf:∀ a h,(f a h).mi=true) {l:List α} {hs:List Value} (r:Nat->Nat):(List.zipWith f l hs).map (Ob.dr r)=List.zipWith f l hs:=by
 refine (List.map_congr_left fun x hx=>?_).trans (List.map_id _);have:=ze hf x hx
 cases x <;> first | rfl | cases this
theorem I3 (x:Src) (hg:x.globals.length<=1048576) (ha:x.arrays.length<=1048576) (hf:x.fns.length<=1048576) (zB:∀ f∈x.fns,f.params.length<=1048576) (hn:x.nodes.length<=1048576) (wF:∀ n∈x.nodes,n.kids.length<=1048576) :
  GC Tryz.prog 10 [.agg (ar x)] [] fun g Δ=>∃ hg ha hf hn fs ns,Ap x hg ha hf hn fs ns/\g=.agg [.v hg,.v ha,.v hf,.v hn]/\Δ=iD x hg ha hf hn fs ns:=by
 have h0:=yn x.globals hg;have h1:=I1 x.arrays ha;have h2:=QD x.fns hf zB;have h3:=LP x.nodes hn wF;refine ai Tryz.func10 Tryz.ntmps10 ?_;refine bZ [] (h0) ?_;rintro _ _ ⟨_,⟨a0,c0,rfl⟩,rfl,rfl⟩;refine da ?_;refine ab ?_;refine bZ [] (h1) ?_;rintro _ _ ⟨_,⟨a1,c1,rfl⟩,rfl,rfl⟩;refine da ?_;refine ab ?_;refine bZ [] (h2) ?_;rintro _ _ ⟨_,fs,⟨a2,c2,rfl⟩,e1,e2,rfl,rfl⟩;rw [List.map_cons,EU (fun _ _=>rfl)];refine da ?_;refine ab ?_;refine bZ [] (h3) ?_;rintro _ _ ⟨_,ns,⟨a3,c3,rfl⟩,e3,e4,rfl,rfl⟩;rw [List.map_cons,EU (fun _ _=>rfl)];refine da ?_;refine ab ?_
 (repeat (first | refine GW.ret ?_ | refine cI ?_ | refine cH ?_ | refine aL ?_ | refine bX ?_))
 refine HX 3 rfl (by first | exact .inr rfl | exact .inl rfl) rfl rfl rfl rfl ?_ ?_
 ·exact y7 x _ _ _ _ fs ns
 ·exact ⟨_,_,_,_,fs,ns,⟨⟨_,_,rfl⟩,⟨_,_,rfl⟩,⟨_,_,rfl⟩,⟨_,_,rfl⟩,e1,e3,e2,e4⟩,rfl,rfl⟩
end Go.Xg
namespace Go.Xg
open Go.RowKit Go.Xw Go.Proofs
open Go.Xp (Nd T Ar aD ay)
open Go.Sp (Src)
open Go.Im
attribute [local irreducible] GW GL GO YG GC GA aS aW
section
variable {B:Bs} {K:Fz} {β:Bt} {w:World} {l:List Value} {fr:List GV} {A C:List Ob}
theorem iN {x y:Operand} {E k:Nat} {rows:List (List GV)} {h z:Value} (hI:Inv B K β (A++(.vech E k rows h::C)) w) (hF:FR K β fr l) (hx:aP fr x=.v h) (hy:aP fr y=.v z) :
  ∃ K1,iI K1 w/\gB K1 (fun _=>.no) w/\aV K1 (fun _=>.no) ([x,y].map (ev l)) [.sl k rows,.v z]:=by
 obtain ⟨K1,hk,h1,h2,h3⟩:=hI.view (i:=A.length) (E:=E) (k:=k) (rows:=rows) (x:=h) (by rw [getElem?_append_right (Nat.le_refl _),Nat.sub_self];rfl);refine ⟨K1,h1,h2,?_⟩;show aV K1 _ [ev l x,ev l y] _;rw [hF.gy hx,hF.gy hy];exact .cons h3 (.cons (.v _) .nil)
end
theorem kX (l:List ae):(aZ l).length=l.length:=by simp [aZ]
theorem Mh (xs:List Int) (s:Int) (hl:xs.length<=1099511627776):GF Tryz.prog 85 [ints xs,.v (ii s)] [] (.v (ii (cX (fun x=>s==x) xs))) []:=by
 have dq:(xs.map fun i=>[GV.v (ii i)]).length=xs.length:=by simp
 refine ai Tryz.func85 Tryz.ntmps85 ?_;refine GW.range (xs.map fun i=>[GV.v (ii i)]).length (fun k fr Γ=>fr=[ints xs,.v (ii s),.Zy,.Zy,.Zy,.Zy,ints xs,.v (ii ((xs.map fun i=>[GV.v (ii i)]).length:Int)),.v (ii (k:Nat)),.Zy,.Zy,.Zy,.Zy,.Zy,.Zy,.Zy,.Zy,.Zy,.Zy]/\Γ=[]/\((xs.take k).all fun x=>!(s==x))=true) ?_ ah ?_ ?_ ?_
 ·exact ⟨_,_,Wk.ax al,rfl,rfl,rfl⟩
 ·rintro k _ _ ⟨rfl,rfl,_⟩;exact ⟨rfl,rfl,rfl⟩
 ·rintro k _ _ aq ⟨rfl,rfl,aM⟩;rw [dq] at aq;obtain ⟨x,cz⟩:∃ x,xs[k]?=some x:=⟨xs[k],by simp [aq]⟩;have hr:=ng cz;have bp:=lu (f:=fun y:Int=>s==y) cz
  have hit:=fun h0=>lz (f:=fun y:Int=>s==y) cz h0 aM
  cases hb:(s==x) with
  | true =>
   rw [hit hb];exact av
  | false =>
   refine ab ?_;exact ⟨rfl,rfl,_,_,Wk.ax al,rfl,rfl,by rw [bp,aM,hb];rfl⟩
 ·rintro _ _ ⟨rfl,rfl,aM⟩;rw [dq,take_length] at aM;rw [iO aM];exact av
theorem EW (xs:List Int) (s:Int) (hl:xs.length<=1099511627776):GF Tryz.prog 67 [ints xs,.v (ii s)] [] (.v (.bool (xs.contains s))) []:=by
 have hi:=Mh xs s hl
 have he:xs.contains s=xs.any (fun x=>s==x):=by rw [List.contains_eq_any_beq]
 rw [he,<-BH];generalize cX (fun x=>s==x) xs=i at *;refine ai Tryz.func67 Tryz.ntmps67 ?_;refine U [] (hi) ?_;exact ao
theorem Qz (p:Src) (name:ae) (ks:List Int) (a s:Nat) (n:Nd) (ls:List ae) (E1:TypeId) (ad:Option Addr) (cp:Nat) (hn:p.nodes[a]?=some n) (ou:ks.length<=1099511627776) (fV:ls.length<=1099511627776) (hs:s<=1099511627776) :
  GF Tryz.prog 66 [.v (ii (a:Nat)),.v (.slice ad ls.length cp),.box (ar p) 0,.box [.v (sv name)] 0,.box [ints ks] 0,.loc 0 0] [.box E1 [.v (ii (s:Nat))],.vech 9 1 (aZ ls) (.slice ad ls.length cp)] (.tup [])
   [.box E1 [.v (ii ((if fa name ks n ls=true then s+1 else s:Nat):Nat))],.vech 9 1 (aZ ls) (.slice ad ls.length cp)]:=by
 have hr:=gM hn;have hC:=EW ks n.kind ou;have hL:=iH ls name fV
 have e1:(n.s==name)=true->ks.contains n.kind=true->(n.kind==13 || ls.contains name)=true->((if fa name ks n ls=true then s+1 else s:Nat))=s+1:=fun h1 h2 h3=>by unfold fa;rw [h1,h2,h3];rfl
 have e2:(n.s==name)=false\/ks.contains n.kind=false\/(n.kind==13 || ls.contains name)=false->((if fa name ks n ls=true then s+1 else s:Nat))=s:=fun h=>by unfold fa;rcases h with h | h | h <;> rw [h] <;> simp
 unfold aw at hr;generalize hz:((if fa name ks n ls=true then s+1 else s:Nat))=z at *;refine cP Tryz.func66 Tryz.ntmps66 ?_
 cases h1:(n.s==name) with
 | false =>
  obtain rfl:=e2 (.inl h1);exact gS
 | true =>
  cases h2:ks.contains n.kind with
  | false =>
   rw [h2] at hC;obtain rfl:=e2 (.inr (.inl h2));refine ab ?_;refine U [] (hC) ?_;exact eX
  | true =>
   rw [h2] at hC
   cases h3:(n.kind==13) with
   | true =>
    obtain rfl:=e1 h1 h2 (by rw [h3];rfl);refine ab ?_;refine U [] (hC) ?_;exact eX
   | false =>
    cases h4:ls.contains name with
    | true =>
     rw [h4] at hL;obtain rfl:=e1 h1 h2 (by rw [h4];simp);refine ab ?_;refine U [] (hC) ?_;refine GL.borrow hL (fun B K β w l hI hF=>iN (A:=[_]) (C:=[_]) hI hF rfl rfl) ?_;refine cy ?_;exact gS
    | false =>
     rw [h4] at hL;obtain rfl:=e2 (.inr (.inr (by rw [h3,h4];rfl)));refine ab ?_;refine U [] (hC) ?_;refine GL.borrow hL (fun B K β w l hI hF=>iN (A:=[_]) (C:=[_]) hI hF rfl rfl) ?_;refine cy ?_;exact gS
end Go.Xg
set_option maxHeartbeats 4000000
namespace Go.Xg
open Go.RowKit Go.Xw Go.Proofs
open Go.Xp (Nd T Ar aD ay c6)
open Go.Sp (Src)
open Go.Im
attribute [local irreducible] GW GL GO YG GC GA aS aW
def EH (p:Src) (name:ae) (ks:List Int):GV:=.fn (.func 66) [] [.box (ar p) 0,.box [.v (sv name)] 0,.box [ints ks] 0,.loc 0 0]
def O8 (p:Src):GV:=.fn (.func 84) [] [.loc 1 0,.loc 2 0,.box (ar p) 0,.loc 3 0]
def B8 (p:Src) (name:ae) (ks:List Int) (E1 E2 E3 E4:TypeId) (s:Nat) (ls:List ae) (ad:Option Addr) (cp:Nat):List Ob :=
 [.box E1 [.v (ii (s:Nat))],.box E2 [EH p name ks],.box E3 [.v (.slice ad ls.length cp)],.box E4 [O8 p],.vech 9 1 (aZ ls) (.slice ad ls.length cp)]
theorem N4 (p:Src) (name:ae) (ks:List Int) (E1 E2 E3 E4:TypeId) (hp:p.nodes.length<=1048576) (eE:∀ n∈p.nodes,n.kids.length<=1099511627776) (ou:ks.length<=1099511627776):∀ (N:Nat) (t:T),aD t<=N->∀ (a s:Nat) (ls:List ae) (ad:Option Addr) (cp:Nat),dx p.nodes a t->ls.length+aD t<=8388608->s+aD t<=8388608 ->
  GC Tryz.prog 84 [.v (ii (a:Nat)),.loc 1 0,.loc 2 0,.box (ar p) 0,.loc 3 0] (B8 p name ks E1 E2 E3 E4 s ls ad cp) fun g Δ=>g=.tup []/\∃ jc jd,Δ=B8 p name ks E1 E2 E3 E4 (fy (eZ (fa name ks)) t a s ls).1 (fy (eZ (fa name ks)) t a s ls).2 jc jd:=by
 intro N
 induction N with
 | zero=>intro t h;have:=gP t;omega
 | succ N ih =>
 intro t hN a s ls ad cp bE fV hs
 cases t with
 | mk n l =>
 rw [Go.Xp.aD] at hN fV hs;rw [dx] at bE;obtain ⟨hn,hk,r6⟩:=bE;rw [fy];have hr:=gM hn;have nq:=eE n (mem_of_getElem? hn);have ht:=Qz p name ks a s n ls E1 ad cp hn ou ah ah;rw [show (if fa name ks n ls=true then s+1 else s)=eZ (fa name ks) s a (.mk n l) ls from rfl] at ht
 have fH:eZ (fa name ks) s a (.mk n l) ls<=s+1:=by unfold eZ;split <;> omega
 generalize eZ (fa name ks) s a (.mk n l) ls=s1 at *
 have sY:n.kids.length=l.length:=by rw [hk,c6]
 unfold aw at hr;unfold B8 EH O8;refine ai Tryz.func84 Tryz.ntmps84 ?_;refine GL.qh [0,4] ht rfl rfl rfl kh ?_;rintro _ _ ⟨rfl,rfl⟩;refine da ?_;refine ab ?_;refine GW.range (n.kids.map fun i=>[GV.v (ii i)]).length (fun k fr Γ=>∃ jc jd,fr=[.v (ii (a:Nat)),.loc 1 0,.loc 2 0,.box (ar p) 0,.loc 3 0,.Zy,.Zy,.Zy,.Zy,.Zy,.Zy,.Zy,.Zy,.Zy,.Zy,.Zy,.Zy,ints n.kids,.v (ii ((n.kids.map fun i=>[GV.v (ii i)]).length:Int)),.v (ii (k:Nat)),.Zy,.Zy,.Zy,.Zy,.Zy,.Zy,.Zy,.Zy,.Zy,.Zy,.Zy,.Zy,.Zy,.Zy,.Zy,.Zy,.Zy,.Zy,.Zy,.Zy,.Zy,.Zy,.Zy]/\Γ=B8 p name ks E1 E2 E3 E4 (cQ (eZ (fa name ks)) (l.take k) (a+1) s1 ls).1 (cQ (eZ (fa name ks)) (l.take k) (a+1) s1 ls).2 jc jd) ?_ (by rw [length_map];omega) ?_ ?_ ?_
 ·exact ⟨_,_,Wk.ax al,ad,cp,rfl,rfl⟩
 ·rintro k _ _ ⟨ad,cp,rfl,rfl⟩;exact ⟨rfl,rfl,rfl⟩
 ·rintro k _ _ aq ⟨ad,cp,rfl,rfl⟩;rw [length_map,sY] at aq;obtain ⟨u,hu⟩:∃ u,l[k]?=some u:=⟨l[k],by simp [aq]⟩;have jy:=td (n:=a+1) hu;rw [<-hk] at jy;have uw:=ng jy;have b8:=mQ hu;have Kz:dx p.nodes (a+1+ay (l.take k)) u:=di.ix l (a+1) k u r6 hu
  have hlen:(cQ (eZ (fa name ks)) (l.take k) (a+1) s1 ls).2.length<=ls.length+ay (l.take k):=by
   rw [mw,length_append];have:=iX (l.take k);omega
  have UZ:(cQ (eZ (fa name ks)) (l.take k) (a+1) s1 ls).1<=s1+ay (l.take k):=by
   rw [AJ];have:=AD (fa name ks) (l.take k) ls;omega
  rw [yz _ hu];generalize (cQ (eZ (fa name ks)) (l.take k) (a+1) s1 ls).1=s2 at *;generalize (cQ (eZ (fa name ks)) (l.take k) (a+1) s1 ls).2=ls2 at *;have hv:=ih u ah (a+1+ay (l.take k)) s2 ls2 ad cp Kz ah ah;unfold B8 EH O8 at hv |-;refine ab ?_;refine GL.qh [0,1,2,3,4] hv rfl rfl rfl kh ?_;rintro _ _ ⟨rfl,jc,jd,rfl⟩;refine da ?_;refine ab ?_;exact ⟨rfl,rfl,_,_,Wk.ax al,jc,jd,rfl,rfl⟩
 ·rintro _ _ ⟨ad,cp,rfl,rfl⟩;rw [length_map,sY,take_length]
  have hlen:(cQ (eZ (fa name ks)) l (a+1) s1 ls).2.length<=ls.length+ay l:=by
   rw [mw,length_append];have:=iX l;omega
  generalize (cQ (eZ (fa name ks)) l (a+1) s1 ls).1=s2 at *;generalize (cQ (eZ (fa name ks)) l (a+1) s1 ls).2=ls2 at *;have Gn:(aZ ls2).length=ls2.length:=kX ls2;unfold B8 EH O8;refine aL ?_
  cases hv:(n.kind==13) with
  | false =>
   rw [if_neg (by simpa using hv)];refine ab ?_;refine cE ?_;exact ⟨rfl,ad,cp,rfl⟩
  | true =>
   rw [if_pos (by simpa using hv)];refine ab ?_;refine GW.draw (.q 0 (.q 1 (.q 2 (.q 3 (.q 4 (.q 5 (.q 6 (.a 7 (.a 8 (.a 9 .nil)))))))))) (by kernel_rfl) (by kernel_rfl) ?_;refine aj ?_;refine dv ?_;refine aj ?_;refine OA rfl rfl (GL.n5 4 (news:=[[.v (sv n.s)]]) rfl rfl rfl (by first | rfl | assumption) rfl rfl (by refine ⟨?_,?_⟩;(· show _+1<=_;omega);(· show (_+1) * _<=_;omega)) ?_);intro nH nI;refine de ?_;refine aj ?_;refine ab ?_;refine cE ?_;exact ⟨rfl,nH,nI,by simp [aZ]⟩
end Go.Xg
namespace Go.Xg
open Go.RowKit Go.Xw Go.Proofs
open Go.Xp (Nd T Ar aD ay)
open Go.Sp (Src)
open Go.Im
attribute [local irreducible] GW GL GO YG GC GA aS aW
theorem pY (l:List ae):ml (l.map fun s=>[GV.v (sv s)])=true:=by
 induction l with
 | nil=>rfl
 | cons s l ih=>rw [List.map_cons,ml,ih];rfl
theorem GW.F5 {P:Program} {m:Nat} {c:Code} {Q:dQ} {fr bQ:List GV} {Γ aH:List Ob} (h1:rH fr bQ) (h2:Γ=aH) (h:GW P m c Q bQ aH):GW P m c Q fr Γ:=by
 subst h2;exact GW.wk (Wk.ax h1) h
theorem Pw (p:Src) (name:ae) (ks:List Int) (E1:TypeId) (i:Nat) (f:Go.Sp.Fn) (t:T) (hp:p.nodes.length<=1048576) (eE:∀ n∈p.nodes,n.kids.length<=1099511627776) (ou:ks.length<=1099511627776)
  (hf:p.fns[i]?=some f) (nz:f.params.length<=1048576) (hb:0<=f.body) (bE:dx p.nodes f.body.toNat t) (b8:aD t<=1048576) :
  GF Tryz.prog 65 [.agg (ar p),.v (ii (i:Nat)),EH p name ks] [.box E1 [.v (ii (0:Nat))]] (.tup []) [.box E1 [.v (ii ((n7 (fa name ks) t f.params:Nat):Int))]]:=by
 have hr:(p.fns.map au)[i]?=some (au f):=by rw [getElem?_map,hf];rfl
 have cJ:(f.params.map fun s=>[GV.v (sv s)]).length=f.params.length:=by simp
 have eM:=pY f.params
 have Ru:(fy (eZ (fa name ks)) t f.body.toNat 0 f.params).1=n7 (fa name ks) t f.params:=by rw [JO];omega
 obtain ⟨b,sV⟩:∃ b:Nat,f.body=(b:Int):=⟨f.body.toNat,by omega⟩;rw [sV,Int.toNat_natCast] at bE Ru;rw [<-Ru];unfold au at hr;rw [sV] at hr;unfold EH;refine cP Tryz.func65 Tryz.ntmps65 ?_;refine gT ?_;refine GL.wk (Wk.freeze (i:=1) rfl rfl rfl (Nat.le_refl _)) ?_;refine GN (by simp only [my,lY];rfl) ?_;refine GL.wk (Wk.ax (bQ:=[.Zy,.v (ii (i:Nat)),.Zy,.box (ar p) 0,.Zy,.loc 2 0,.Zy,.Zy,.Zy,.Zy,.Zy,.Zy,.Zy,strs f.params,.Zy,.Zy,.Zy,.Zy,.Zy,.Zy,.Zy,.Zy,.Zy,.Zy]) al) ?_;refine GL.wk (Wk.l8 9 1) ?_;refine GL.zi 3 rfl rfl rfl rfl eM (by refine ⟨?_,?_⟩;(· rw [cJ];omega);(· rw [cJ];omega)) ?_;intro ad cp;rw [cJ];refine cy ?_;simp only [nil_append,length_nil,Nat.zero_add];refine ab ?_;refine GW.F5 (bQ:=[.Zy,.v (ii (i:Nat)),.Zy,.box (ar p) 0,.Zy,.loc 2 0,.loc 4 0,.loc 5 0,.Zy,.Zy,.Zy,.Zy,.Zy,.Zy,.Zy,.Zy,.Zy,.Zy,.Zy,.Zy,.Zy,.Zy,.Zy,.Zy]) (aH:=[.box E1 [.v (ii (0:Nat))],.gone,.box _ [.fn (.func 66) [] [.box (ar p) 0,.box [.v (sv name)] 0,.box [ints ks] 0,.loc 0 0]],.vech 9 1 (aZ f.params) (.slice ad f.params.length cp),.box _ [.v (.slice ad f.params.length cp)],.box _ [.fn (.func 84) [] [.loc 2 0,.loc 4 0,.box (ar p) 0,.loc 5 0]]]) al rfl ?_;refine GW.draw (.q 0 (.q 1 (.q 2 (.q 3 (.q 4 (.q 5 (.q 6 (.a 7 .nil)))))))) (by kernel_rfl) (by kernel_rfl) ?_;refine aj ?_;have hv:=N4 p name ks E1;refine OA rfl rfl (GL.qh [0,2,4,5,3] (hv _ _ _ hp eE ou _ t (Nat.le_refl _) b 0 f.params ad cp bE ah ah) rfl rfl rfl kh ?_);rintro _ _ ⟨rfl,jc,jd,rfl⟩;refine ⟨by simp [B8],?_⟩;unfold B8;refine de ?_;refine aj ?_;exact gS
end Go.Xg
namespace Go.Xg
open Go.RowKit Go.Xw Go.Proofs
open Go.Xp (Nd T Ar aD ay)
open Go.Sp (Src)
open Go.Im
attribute [local irreducible] GW GL GO YG GC GA aS aW
def s9 (n:Nd):Bool:=(n.kind==4&&n.s==[115,105,122,101])&&((n.kids.length:Int)==1)
theorem zP (p:Src) (a:Nat) (n:Nd) (hn:p.nodes[a]?=some n):GF Tryz.prog 124 [.agg (ar p),.v (ii (a:Nat))] [] (.v (.bool (s9 n))) []:=by
 have hr:=gM hn
 have eE:(n.kids.map fun i=>[GV.v (ii i)]).length=n.kids.length:=by simp
 unfold s9;rw [<-eE];unfold aw ints at hr;generalize (n.kids.map fun i=>[GV.v (ii i)])=kk at *
 cases h1:(n.kind==4)
 all_goals cases h2:(n.s==[115,105,122,101])
 all_goals
  refine ai Tryz.func124 Tryz.ntmps124 ?_;exact ao
theorem St (p:Src) (s:ae) (hn:p.fns.length<=1099511627776):GF Tryz.prog 184 [.agg (ar p),.v (sv s)] [] (.v (ii (kH p s))) []:=by
 have hF:=Q0 p s hn;unfold kH nY oU c8
 cases h1:(s==[103,101,116]) with
 | true =>
  rw [if_pos (by simpa using h1)];refine ai Tryz.func184 Tryz.ntmps184 ?_;exact ao
 | false =>
  rw [if_neg (by simpa using h1)]
  cases h2:(s==[112,117,116]) with
  | true =>
   rw [if_pos (.inl (by simpa using h2))];refine ai Tryz.func184 Tryz.ntmps184 ?_;exact ao
  | false =>
   cases h3:(s==[115,105,122,101]) with
   | true =>
    rw [if_pos (.inr (by simpa using h3))];refine ai Tryz.func184 Tryz.ntmps184 ?_;exact ao
   | false =>
    rw [if_neg (by simpa using And.intro (show ¬ s=[112,117,116] by simpa using h2) (show ¬ s=[115,105,122,101] by simpa using h3))];unfold cX at hF
    cases hx:p.fns.findIdx? (fun f:Go.Sp.Fn=>f.name==s) with
    | none =>
     rw [hx] at hF
     have hd:decide ((0:Int) <= -1)=false:=by decide
     refine ai Tryz.func184 Tryz.ntmps184 ?_;refine U [] (hF) ?_;exact ao
    | some i =>
     rw [hx] at hF;have hi:i < p.fns.length:=(List.findIdx?_eq_some_iff_getElem.1 hx).1;obtain ⟨f,hf⟩:∃ f,p.fns[i]?=some f:=⟨p.fns[i],by simp [hi]⟩
     have hr:(p.fns.map au)[i]?=some (au f):=by rw [getElem?_map,hf];rfl
     have cJ:(f.params.map fun s=>[GV.v (sv s)]).length=f.params.length:=by simp
     have hd:decide ((0:Int)<=((i:Nat):Int))=true:=by simp
     unfold au at hr;simp only at hF |-;unfold kT;rw [hf];simp only;rw [<-cJ];refine ai Tryz.func184 Tryz.ntmps184 ?_;refine U [] (hF) ?_;exact ao
end Go.Xg
namespace Go.Xg
open Go.RowKit Go.Xw Go.Proofs
open Go.Xp (Nd T Ar aD ay c6 bN)
open Go.Sp (Src)
open Go.Im
attribute [local irreducible] GW GL GO YG GC GA aS aW
theorem GD {p:Src} {a:Nat} {n:Nd} {l:List T} (bE:dx p.nodes a (.mk n l)):cq (.mk n l)=s9 n:=by
 rw [dx] at bE;unfold cq s9 c8
 congr 1
 rw [bE.2.1,c6]
 exact Bool.eq_iff_iff.2 (by
  show ((l.length==1)=true)↔_
  simp only [beq_iff_eq];omega)
theorem Ff (p:Src) (a:Nat) (n:Nd) (l:List T) (ls:List ae) (bE:dx p.nodes a (.mk n l)) (kz:p.fns.length<=1099511627776) (iF:p.arrays.length<=1099511627776) (fV:ls.length<=1099511627776) :
  GF Tryz.prog 148 [.agg (ar p),.v (ii (a:Nat)),strs ls] [] (.v (ii (dz p (.mk n l) ls))) []:=by
 have hs:=GD bE;rw [dx] at bE;obtain ⟨hn,hk,r6⟩:=bE;have hS:=zP p a n hn;have hr:=gM hn
 have eE:(n.kids.map fun i=>[GV.v (ii i)]).length=l.length:=by rw [length_map,hk,c6]
 unfold dz;rw [hs]
 cases hz:s9 n with
 | true =>
  rw [hz] at hS;rw [if_pos rfl]
  have eP:l.length=1:=by
   unfold s9 at hz;simp only [Bool.and_eq_true,beq_iff_eq] at hz;rw [hk,c6] at hz;omega
  obtain ⟨u,rfl⟩:∃ u,l=[u]:=by
   match l,eP with
   | [u],_=>exact ⟨u,rfl⟩
  have hm:p.nodes[a+1]?=some u.n:=by
   rw [di] at r6;have:=r6.1
   cases u;rw [dx] at this;exact this.1
  have x8:n.kids[0]?=some (((a+1:Nat)):Int):=by rw [hk];rfl
  have qB:=ng x8;have gg:=gM hm;show GF _ _ _ _ (.v (ii (if eH p u.n ls=true then 24 else 0))) _;generalize u.n=m at *;have hA:=Bw p m.s iF;have hL:=iH ls m.s fV;have hb:eH p m ls=((m.kind != 2 || decide (cX (fun x:Ar=>x.name==m.s) p.arrays < 0)) || ls.contains m.s):=rfl;rw [hb];generalize cX (fun x:Ar=>x.name==m.s) p.arrays=z at *;unfold aw at hr gg
  cases h1:(m.kind != 2) with
  | true =>
   refine ai Tryz.func148 Tryz.ntmps148 ?_;refine U [] (hS) ?_;refine GW.draw (.q 0 (.q 1 (.q 2 (.q 3 (.q 4 (.q 5 (.q 6 (.q 7 (.a 8 (.a 9 .nil)))))))))) (by kernel_rfl) (by kernel_rfl) ?_;refine aj ?_;exact av
  | false =>
   cases h2:decide (z < 0) with
   | true =>
    refine ai Tryz.func148 Tryz.ntmps148 ?_;refine U [] (hS) ?_;refine GW.draw (.q 0 (.q 1 (.q 2 (.q 3 (.q 4 (.q 5 (.q 6 (.q 7 (.a 8 (.a 9 .nil)))))))))) (by kernel_rfl) (by kernel_rfl) ?_;refine aj ?_;refine ab ?_;refine U [] (hA) ?_;exact ao
   | false =>
    generalize ls.contains m.s=b at *;cases b
    all_goals
     refine ai Tryz.func148 Tryz.ntmps148 ?_;refine U [] (hS) ?_;refine GW.draw (.q 0 (.q 1 (.q 2 (.q 3 (.q 4 (.q 5 (.q 6 (.q 7 (.a 8 (.a 9 .nil)))))))))) (by kernel_rfl) (by kernel_rfl) ?_;refine aj ?_;refine ab ?_;refine U [] (hA) ?_;refine U [] (hL) ?_;exact ao
 | false =>
  rw [hz] at hS;rw [if_neg (by decide)];have hM:=St p n.s kz;show GF _ _ _ _ (.v (ii (if kH p n.s = -1 then 22 else if kH p n.s=(l.length:Int) then 0 else 23))) _;generalize kH p n.s=z at *;rw [<-eE];unfold aw at hr;unfold ints at hr;generalize (n.kids.map fun i=>[GV.v (ii i)])=kk at *
  cases h1:(z == -1) with
  | true =>
   rw [if_pos (by simpa using h1)];refine ai Tryz.func148 Tryz.ntmps148 ?_;refine U [] (hS) ?_;refine U [] (hM) ?_;exact ao
  | false =>
   rw [if_neg (by simpa using h1)]
   cases h2:(z==(kk.length:Int)) with
   | true =>
    rw [if_pos (by simpa using h2)];refine ai Tryz.func148 Tryz.ntmps148 ?_;refine U [] (hS) ?_;refine U [] (hM) ?_;exact ao
   | false =>
    rw [if_neg (by simpa using h2)];refine ai Tryz.func148 Tryz.ntmps148 ?_;refine U [] (hS) ?_;refine U [] (hM) ?_;exact ao
theorem Fw (p:Src) (a:Nat) (n:Nd) (l:List T) (ls:List ae) (bE:dx p.nodes a (.mk n l)) (kz:p.fns.length<=1099511627776) (iF:p.arrays.length<=1099511627776) (jQ:p.globals.length<=1099511627776) (fV:ls.length<=1099511627776) :
  GF Tryz.prog 125 [.agg (ar p),.v (ii (a:Nat)),strs ls] [] (.v (ii (bC p (.mk n l) ls))) []:=by
 have hC:=Ff p a n l ls bE kz iF fV
 have hn:p.nodes[a]?=some n:=by rw [dx] at bE;exact bE.1
 clear bE;have hr:=gM hn;have hL:=iH ls n.s fV;have hG:=iH p.globals n.s jQ;have hA:=Bw p n.s iF
 have ov:(ls.map fun s=>[GV.v (sv s)]).length=ls.length:=by simp
 have he:bC p (.mk n l) ls=(if n.kind=13 then (if ls.contains n.s=true then 21 else if ls.length>=40 then 26 else 0)
  else if n.kind=2\/n.kind=7 then (if ls.contains n.s=false/\p.globals.contains n.s=false then 22 else 0)
  else if n.kind=3\/n.kind=8 then (if ls.contains n.s=true\/cX (fun x:Ar=>x.name==n.s) p.arrays < 0 then 24 else 0)
  else if n.kind=4 then dz p (.mk n l) ls else 0):=rfl
 rw [he];generalize dz p (.mk n l) ls=cf at *;obtain ⟨kd,at_,nn,s,ks⟩:=n;simp only at *;unfold aw at hr;simp only at hr;generalize cX (fun x:Ar=>x.name==s) p.arrays=z at *;generalize ls.contains s=b at *;generalize p.globals.contains s=g at *;rw [<-ov]
 by_cases eu:kd=13
 ·subst eu
  have G7:((13:Int)==13)=true:=by decide
  rw [if_pos rfl]
  cases b with
  | true =>
   refine ai Tryz.func125 Tryz.ntmps125 ?_;refine U [] (hL) ?_;exact ao
  | false =>
   cases h4:decide ((40:Int)<=(((ls.map fun s=>[GV.v (sv s)]).length:Nat):Int)) with
   | true =>
    rw [if_neg (by decide),if_pos (by simp at h4;omega)];refine ai Tryz.func125 Tryz.ntmps125 ?_;refine U [] (hL) ?_;exact ao
   | false =>
    rw [if_neg (by decide),if_neg (by simp at h4;omega)];refine ai Tryz.func125 Tryz.ntmps125 ?_;refine U [] (hL) ?_;exact ao
 rw [if_neg eu]
 by_cases h2:kd=2
 ·subst h2
  have G7:((2:Int)==13)=false:=by decide
  have q2:((2:Int)==2)=true:=by decide
  rw [if_pos (by decide)]
  cases b with
  | true =>
   refine ai Tryz.func125 Tryz.ntmps125 ?_;refine U [] (hL) ?_;exact ao
  | false =>
   cases g
   all_goals
    refine ai Tryz.func125 Tryz.ntmps125 ?_;refine U [] (hL) ?_;refine U [] (hG) ?_;exact ao
 by_cases h7:kd=7
 ·subst h7
  have G7:((7:Int)==13)=false:=by decide
  have q2:((7:Int)==2)=false:=by decide
  have q7:((7:Int)==7)=true:=by decide
  rw [if_pos (by decide)]
  cases b with
  | true =>
   refine ai Tryz.func125 Tryz.ntmps125 ?_;refine U [] (hL) ?_;exact ao
  | false =>
   cases g
   all_goals
    refine ai Tryz.func125 Tryz.ntmps125 ?_;refine U [] (hL) ?_;refine U [] (hG) ?_;exact ao
 rw [if_neg (by rintro (h | h);(· exact h2 h);exact h7 h)]
 by_cases h3:kd=3
 ·subst h3
  have G7:((3:Int)==13)=false:=by decide
  have q2:((3:Int)==2)=false:=by decide
  have q7:((3:Int)==7)=false:=by decide
  have q3:((3:Int)==3)=true:=by decide
  rw [if_pos (by decide)]
  cases b with
  | true =>
   refine ai Tryz.func125 Tryz.ntmps125 ?_;refine U [] (hL) ?_;exact ao
  | false =>
   cases hz:decide (z < 0) with
   | true =>
    rw [if_pos (.inr (by simpa using hz))];refine ai Tryz.func125 Tryz.ntmps125 ?_;refine U [] (hL) ?_;refine U [] (hA) ?_;exact ao
   | false =>
    rw [if_neg (by rintro (h | h);(· cases h);(· simp at hz;omega))];refine ai Tryz.func125 Tryz.ntmps125 ?_;refine U [] (hL) ?_;refine U [] (hA) ?_;exact ao
 by_cases h8:kd=8
 ·subst h8
  have G7:((8:Int)==13)=false:=by decide
  have q2:((8:Int)==2)=false:=by decide
  have q7:((8:Int)==7)=false:=by decide
  have q3:((8:Int)==3)=false:=by decide
  have q8:((8:Int)==8)=true:=by decide
  rw [if_pos (by decide)]
  cases b with
  | true =>
   refine ai Tryz.func125 Tryz.ntmps125 ?_;refine U [] (hL) ?_;exact ao
  | false =>
   cases hz:decide (z < 0) with
   | true =>
    rw [if_pos (.inr (by simpa using hz))];refine ai Tryz.func125 Tryz.ntmps125 ?_;refine U [] (hL) ?_;refine U [] (hA) ?_;exact ao
   | false =>
    rw [if_neg (by rintro (h | h);(· cases h);(· simp at hz;omega))];refine ai Tryz.func125 Tryz.ntmps125 ?_;refine U [] (hL) ?_;refine U [] (hA) ?_;exact ao
 rw [if_neg (by rintro (h | h);(· exact h3 h);exact h8 h)]
 by_cases h4:kd=4
 ·subst h4
  have G7:((4:Int)==13)=false:=by decide
  have q2:((4:Int)==2)=false:=by decide
  have q7:((4:Int)==7)=false:=by decide
  have q3:((4:Int)==3)=false:=by decide
  have q8:((4:Int)==8)=false:=by decide
  have q4:((4:Int)==4)=true:=by decide
  rw [if_pos rfl];refine ai Tryz.func125 Tryz.ntmps125 ?_;refine U [] (hL) ?_;refine U [] (hC) ?_;exact ao
 rw [if_neg h4]
 have G7:(kd==13)=false:=by simpa using eu
 have q2:(kd==2)=false:=by simpa using h2
 have q7:(kd==7)=false:=by simpa using h7
 have q3:(kd==3)=false:=by simpa using h3
 have q8:(kd==8)=false:=by simpa using h8
 have q4:(kd==4)=false:=by simpa using h4
 refine ai Tryz.func125 Tryz.ntmps125 ?_;refine U [] (hL) ?_;exact ao
end Go.Xg
namespace Go.Xg
open Go.RowKit Go.Xw Go.Proofs
open Go.Xp (Nd T Ar aD ay c6 bN)
open Go.Sp (Src)
open Go.Im
attribute [local irreducible] GW GL GO YG GC GA aS aW
theorem Q2 {K K1:Fz} {β:Bt} {v:Value} {gs:List GV} (hk:cm K K1) (hp:∀ g∈gs,g.pc=true) (h:Rel K β v (.agg gs)):Rel K1 (fun _=>.no) v (.agg gs):=by
 cases h with
 | agg vs cs hl h =>
  exact .agg vs gs hl fun i v g h1 h2=>((h i v g h1 h2).mono hk (dc.refl β)).pc (hp g (mem_of_getElem? h2))
theorem HQ (p:Src):∀ g∈ar p,g.pc=true:=fun g hg=>by
 simp only [ar,List.mem_cons,List.not_mem_nil,or_false] at hg
 rcases hg with rfl | rfl | rfl | rfl <;> rfl
theorem mV {B:Bs} {K:Fz} {β:Bt} {w:World} {l:List Value} {fr:List GV} {A C:List Ob} {p:Src} {x y u:Operand} {E k:Nat} {rows:List (List GV)} {h z:Value} (hI:Inv B K β (A++(.vech E k rows h::C)) w) (hF:FR K β fr l) (hx:aP fr x=.agg (ar p)) (hy:aP fr y=.v z) (hu:aP fr u=.v h) :
  ∃ K1,iI K1 w/\gB K1 (fun _=>.no) w/\aV K1 (fun _=>.no) ([x,y,u].map (ev l)) [.agg (ar p),.v z,.sl k rows]:=by
 obtain ⟨K1,hk,h1,h2,h3⟩:=hI.view (i:=A.length) (E:=E) (k:=k) (rows:=rows) (x:=h) (by rw [getElem?_append_right (Nat.le_refl _),Nat.sub_self];rfl);have hr:=hF.ev x;rw [hx] at hr;refine ⟨K1,h1,h2,?_⟩;show aV K1 _ [ev l x,ev l y,ev l u] _;rw [hF.gy hy,hF.gy hu];exact .cons (Q2 hk (HQ p) hr) (.cons (.v _) (.cons h3 .nil))
theorem Qx (p:Src) (a:Nat) (n:Nd) (l:List T) (ls:List ae) (c:CS) (E1 E5 E6:TypeId) (ad:Option Addr) (cp:Nat) (bE:dx p.nodes a (.mk n l)) (kz:p.fns.length<=1099511627776) (iF:p.arrays.length<=1099511627776) (jQ:p.globals.length<=1099511627776) (fV:ls.length<=1099511627776) :
  GF Tryz.prog 123 [.v (ii (a:Nat)),.v (.slice ad ls.length cp),.loc 0 0,.loc 1 0,.box (ar p) 0,.loc 2 0] [.box E1 [.v (ii c.code)],.box E5 [.v (ii c.skip)],.box E6 [.v (ii c.place)],.vech 9 1 (aZ ls) (.slice ad ls.length cp)] (.tup [])
   [.box E1 [.v (ii (bY p c a (.mk n l) ls).code)],.box E5 [.v (ii (bY p c a (.mk n l) ls).skip)],.box E6 [.v (ii (bY p c a (.mk n l) ls).place)],.vech 9 1 (aZ ls) (.slice ad ls.length cp)]:=by
 have hs:=GD bE;have hN:=Fw p a n l ls bE kz iF jQ fV;rw [dx] at bE;obtain ⟨hn,hk,r6⟩:=bE;have hS:=zP p a n hn;have hr:=gM hn;obtain ⟨code,place,skip⟩:=c;unfold bY;rw [hs];simp only;generalize bC p (.mk n l) ls=z at *
 cases h1:(code != 0) with
 | true =>
  rw [if_pos (.inl (by simpa using h1))];refine ai Tryz.func123 Tryz.ntmps123 ?_;exact eX
 | false =>
  cases h2:(((a:Nat):Int)==skip) with
  | true =>
   rw [if_pos (.inr (by simpa using h2))];refine ai Tryz.func123 Tryz.ntmps123 ?_;exact eX
  | false =>
   rw [if_neg (by rintro (h | h);(· simp at h1;exact h h1);(· simp at h2;exact h2 h))];simp only
   cases hz:s9 n with
   | false =>
    rw [hz] at hS;rw [if_neg (show ¬ (false=true) by decide)];unfold aw at hr
    cases h3:(z != 0) with
    | true =>
     rw [if_pos (by simpa using h3)];refine ai Tryz.func123 Tryz.ntmps123 ?_;refine U [] (hS) ?_;refine GL.borrow hN (fun B K β w l hI hF=>mV (A:=[_,_,_]) (C:=[]) hI hF rfl rfl rfl) ?_;refine cy ?_;exact gS
    | false =>
     rw [if_neg (by simpa using h3)];refine ai Tryz.func123 Tryz.ntmps123 ?_;refine U [] (hS) ?_;refine GL.borrow hN (fun B K β w l hI hF=>mV (A:=[_,_,_]) (C:=[]) hI hF rfl rfl rfl) ?_;refine cy ?_;exact gS
   | true =>
    rw [hz] at hS;rw [if_pos rfl]
    have eP:l.length=1:=by
     unfold s9 at hz;simp only [Bool.and_eq_true,beq_iff_eq] at hz;rw [hk,c6] at hz;omega
    obtain ⟨u,rfl⟩:∃ u,l=[u]:=by
     match l,eP with
     | [u],_=>exact ⟨u,rfl⟩
    have hm:p.nodes[a+1]?=some u.n:=by
     rw [di] at r6;have:=r6.1
     cases u;rw [dx] at this;exact this.1
    have x8:n.kids[0]?=some (((a+1:Nat)):Int):=by rw [hk];rfl
    have qB:=ng x8;have gg:=gM hm;rw [show lB (.mk n [u])=u.n from rfl];generalize u.n=m at *;unfold aw at hr gg
    cases h4:(m.kind != 2) with
    | true =>
     rw [if_pos (show m.kind≠2 by simpa using h4)]
     cases h3:(z != 0) with
     | true =>
      rw [if_pos (by simpa using h3)];refine ai Tryz.func123 Tryz.ntmps123 ?_;refine U [] (hS) ?_;refine GL.borrow hN (fun B K β w l hI hF=>mV (A:=[_,_,_]) (C:=[]) hI hF rfl rfl rfl) ?_;refine cy ?_;exact gS
     | false =>
      rw [if_neg (by simpa using h3)];refine ai Tryz.func123 Tryz.ntmps123 ?_;refine U [] (hS) ?_;refine GL.borrow hN (fun B K β w l hI hF=>mV (A:=[_,_,_]) (C:=[]) hI hF rfl rfl rfl) ?_;refine cy ?_;exact gS
    | false =>
     rw [if_neg (show ¬ (m.kind≠2) by simpa using h4)]
     cases h3:(z != 0) with
     | true =>
      rw [if_pos (by simpa using h3)];refine ai Tryz.func123 Tryz.ntmps123 ?_;refine U [] (hS) ?_;refine GL.borrow hN (fun B K β w l hI hF=>mV (A:=[_,_,_]) (C:=[]) hI hF rfl rfl rfl) ?_;refine cy ?_;exact gS
     | false =>
      rw [if_neg (by simpa using h3)];refine ai Tryz.func123 Tryz.ntmps123 ?_;refine U [] (hS) ?_;refine GL.borrow hN (fun B K β w l hI hF=>mV (A:=[_,_,_]) (C:=[]) hI hF rfl rfl rfl) ?_;refine cy ?_;exact gS
end Go.Xg
namespace Go.Xg
open Go.RowKit Go.Xw Go.Proofs
open Go.Xp (Nd T Ar aD ay c6)
open Go.Sp (Src)
open Go.Im
attribute [local irreducible] GW GL GO YG GC GA aS aW
def Hn (p:Src):GV:=.fn (.func 123) [] [.loc 0 0,.loc 1 0,.box (ar p) 0,.loc 2 0]
def O6 (p:Src):GV:=.fn (.func 84) [] [.loc 3 0,.loc 4 0,.box (ar p) 0,.loc 5 0]
def Cg (p:Src) (E1 E5 E6 E2 E3 E4:TypeId) (s:CS) (ls:List ae) (ad:Option Addr) (cp:Nat):List Ob :=
 [.box E1 [.v (ii s.code)],.box E5 [.v (ii s.skip)],.box E6 [.v (ii s.place)],.box E2 [Hn p],.box E3 [.v (.slice ad ls.length cp)],.box E4 [O6 p],.vech 9 1 (aZ ls) (.slice ad ls.length cp)]
theorem N2 (p:Src) (E1 E5 E6 E2 E3 E4:TypeId) (hp:p.nodes.length<=1048576) (eE:∀ n∈p.nodes,n.kids.length<=1099511627776) (kz:p.fns.length<=1099511627776) (iF:p.arrays.length<=1099511627776) (jQ:p.globals.length<=1099511627776):∀ (N:Nat) (t:T),aD t<=N->∀ (a:Nat) (s:CS) (ls:List ae) (ad:Option Addr) (cp:Nat),dx p.nodes a t->ls.length+aD t<=8388608 ->
  GC Tryz.prog 84 [.v (ii (a:Nat)),.loc 3 0,.loc 4 0,.box (ar p) 0,.loc 5 0] (Cg p E1 E5 E6 E2 E3 E4 s ls ad cp) fun g Δ=>g=.tup []/\∃ jc jd,Δ=Cg p E1 E5 E6 E2 E3 E4 (fy (bY p) t a s ls).1 (fy (bY p) t a s ls).2 jc jd:=by
 intro N
 induction N with
 | zero=>intro t h;have:=gP t;omega
 | succ N ih =>
 intro t hN a s ls ad cp bE fV
 cases t with
 | mk n l =>
 rw [Go.Xp.aD] at hN fV;have R4:=bE;rw [dx] at bE;obtain ⟨hn,hk,r6⟩:=bE;rw [fy];have hr:=gM hn;have nq:=eE n (mem_of_getElem? hn);have ht:=Qx p a n l ls s E1 E5 E6 ad cp R4 kz iF jQ ah;generalize fH:(bY p) s a (.mk n l) ls=s1 at *
 have sY:n.kids.length=l.length:=by rw [hk,c6]
 unfold aw at hr;unfold Cg Hn O6;refine ai Tryz.func84 Tryz.ntmps84 ?_;refine GL.qh [0,1,2,6] ht rfl rfl rfl (by repeat (first | exact trivial | refine ⟨rfl,?_⟩)) ?_;rintro _ _ ⟨rfl,rfl⟩;refine da ?_;refine ab ?_;refine GW.range (n.kids.map fun i=>[GV.v (ii i)]).length (fun k fr Γ=>∃ jc jd,fr=[.v (ii (a:Nat)),.loc 3 0,.loc 4 0,.box (ar p) 0,.loc 5 0,.Zy,.Zy,.Zy,.Zy,.Zy,.Zy,.Zy,.Zy,.Zy,.Zy,.Zy,.Zy,ints n.kids,.v (ii ((n.kids.map fun i=>[GV.v (ii i)]).length:Int)),.v (ii (k:Nat)),.Zy,.Zy,.Zy,.Zy,.Zy,.Zy,.Zy,.Zy,.Zy,.Zy,.Zy,.Zy,.Zy,.Zy,.Zy,.Zy,.Zy,.Zy,.Zy,.Zy,.Zy,.Zy,.Zy]/\Γ=Cg p E1 E5 E6 E2 E3 E4 (cQ (bY p) (l.take k) (a+1) s1 ls).1 (cQ (bY p) (l.take k) (a+1) s1 ls).2 jc jd) ?_ (by rw [length_map];omega) ?_ ?_ ?_
 ·exact ⟨_,_,Wk.ax al,ad,cp,rfl,rfl⟩
 ·rintro k _ _ ⟨ad,cp,rfl,rfl⟩;exact ⟨rfl,rfl,rfl⟩
 ·rintro k _ _ aq ⟨ad,cp,rfl,rfl⟩;rw [length_map,sY] at aq;obtain ⟨u,hu⟩:∃ u,l[k]?=some u:=⟨l[k],by simp [aq]⟩;have jy:=td (n:=a+1) hu;rw [<-hk] at jy;have uw:=ng jy;have b8:=mQ hu;have Kz:dx p.nodes (a+1+ay (l.take k)) u:=di.ix l (a+1) k u r6 hu
  have hlen:(cQ (bY p) (l.take k) (a+1) s1 ls).2.length<=ls.length+ay (l.take k):=by
   rw [mw,length_append];have:=iX (l.take k);omega
  rw [yz _ hu];generalize (cQ (bY p) (l.take k) (a+1) s1 ls).1=s2 at *;generalize (cQ (bY p) (l.take k) (a+1) s1 ls).2=ls2 at *;have hv:=ih u ah (a+1+ay (l.take k)) s2 ls2 ad cp Kz ah;unfold Cg Hn O6 at hv |-;refine ab ?_;refine GL.qh [0,1,2,3,4,5,6] hv rfl rfl rfl (by repeat (first | exact trivial | refine ⟨rfl,?_⟩)) ?_;rintro _ _ ⟨rfl,jc,jd,rfl⟩;refine da ?_;refine ab ?_;exact ⟨rfl,rfl,_,_,Wk.ax al,jc,jd,rfl,rfl⟩
 ·rintro _ _ ⟨ad,cp,rfl,rfl⟩;rw [length_map,sY,take_length]
  have hlen:(cQ (bY p) l (a+1) s1 ls).2.length<=ls.length+ay l:=by
   rw [mw,length_append];have:=iX l;omega
  generalize (cQ (bY p) l (a+1) s1 ls).1=s2 at *;generalize (cQ (bY p) l (a+1) s1 ls).2=ls2 at *;have Gn:(aZ ls2).length=ls2.length:=kX ls2;unfold Cg Hn O6;refine aL ?_
  cases hv:(n.kind==13) with
  | false =>
   rw [if_neg (by simpa using hv)];refine ab ?_;refine cE ?_;exact ⟨rfl,ad,cp,rfl⟩
  | true =>
   rw [if_pos (by simpa using hv)];refine ab ?_;refine GW.draw (.q 0 (.q 1 (.q 2 (.q 3 (.q 4 (.q 5 (.q 6 (.a 7 (.a 8 (.a 9 .nil)))))))))) (by kernel_rfl) (by kernel_rfl) ?_;refine aj ?_;refine dv ?_;refine aj ?_;refine OA rfl rfl (GL.n5 6 (news:=[[.v (sv n.s)]]) rfl rfl rfl (by first | rfl | assumption) rfl rfl (by refine ⟨?_,?_⟩;(· show _+1<=_;omega);(· show (_+1) * _<=_;omega)) ?_);intro nH nI;refine de ?_;refine aj ?_;refine ab ?_;refine cE ?_;exact ⟨rfl,nH,nI,by simp [aZ]⟩
theorem Pu (p:Src) (E1 E5 E6:TypeId) (i:Nat) (f:Go.Sp.Fn) (t:T) (s:CS) (hp:p.nodes.length<=1048576) (eE:∀ n∈p.nodes,n.kids.length<=1099511627776) (kz:p.fns.length<=1099511627776) (iF:p.arrays.length<=1099511627776) (jQ:p.globals.length<=1099511627776)
  (hf:p.fns[i]?=some f) (nz:f.params.length<=1048576) (hb:0<=f.body) (bE:dx p.nodes f.body.toNat t) (b8:aD t<=1048576) :
  GF Tryz.prog 65 [.agg (ar p),.v (ii (i:Nat)),Hn p] [.box E1 [.v (ii s.code)],.box E5 [.v (ii s.skip)],.box E6 [.v (ii s.place)]] (.tup []) [.box E1 [.v (ii (fy (bY p) t f.body.toNat s f.params).1.code)],.box E5 [.v (ii (fy (bY p) t f.body.toNat s f.params).1.skip)],.box E6 [.v (ii (fy (bY p) t f.body.toNat s f.params).1.place)]]:=by
 have hr:(p.fns.map au)[i]?=some (au f):=by rw [getElem?_map,hf];rfl
 have cJ:(f.params.map fun s=>[GV.v (sv s)]).length=f.params.length:=by simp
 have eM:=pY f.params;obtain ⟨b,sV⟩:∃ b:Nat,f.body=(b:Int):=⟨f.body.toNat,by omega⟩;rw [sV,Int.toNat_natCast] at bE |-;unfold au at hr;rw [sV] at hr;unfold Hn;refine cP Tryz.func65 Tryz.ntmps65 ?_;refine gT ?_;refine GL.wk (Wk.freeze (i:=3) rfl rfl rfl (Nat.le_refl _)) ?_;refine GN (by simp only [my,lY];rfl) ?_;refine GL.wk (Wk.ax (bQ:=[.Zy,.v (ii (i:Nat)),.Zy,.box (ar p) 0,.Zy,.loc 4 0,.Zy,.Zy,.Zy,.Zy,.Zy,.Zy,.Zy,strs f.params,.Zy,.Zy,.Zy,.Zy,.Zy,.Zy,.Zy,.Zy,.Zy,.Zy]) al) ?_;refine GL.wk (Wk.l8 9 1) ?_;refine GL.zi 5 rfl rfl rfl rfl eM (by refine ⟨?_,?_⟩;(· rw [cJ];omega);(· rw [cJ];omega)) ?_;intro ad cp;rw [cJ];refine cy ?_;simp only [nil_append,length_nil,Nat.zero_add];refine ab ?_;refine GW.F5 (bQ:=[.Zy,.v (ii (i:Nat)),.Zy,.box (ar p) 0,.Zy,.loc 4 0,.loc 6 0,.loc 7 0,.Zy,.Zy,.Zy,.Zy,.Zy,.Zy,.Zy,.Zy,.Zy,.Zy,.Zy,.Zy,.Zy,.Zy,.Zy,.Zy]) (aH:=[.box E1 [.v (ii s.code)],.box E5 [.v (ii s.skip)],.box E6 [.v (ii s.place)],.gone,.box _ [.fn (.func 123) [] [.loc 0 0,.loc 1 0,.box (ar p) 0,.loc 2 0]],.vech 9 1 (aZ f.params) (.slice ad f.params.length cp),.box _ [.v (.slice ad f.params.length cp)],.box _ [.fn (.func 84) [] [.loc 4 0,.loc 6 0,.box (ar p) 0,.loc 7 0]]]) al rfl ?_;refine GW.draw (.q 0 (.q 1 (.q 2 (.q 3 (.q 4 (.q 5 (.q 6 (.a 7 .nil)))))))) (by kernel_rfl) (by kernel_rfl) ?_;refine aj ?_;have hv:=N2 p E1 E5 E6;refine OA rfl rfl (GL.qh [0,1,2,4,6,7,5] (hv _ _ _ hp eE kz iF jQ _ t (Nat.le_refl _) b s f.params ad cp bE ah) rfl rfl rfl (by repeat (first | exact trivial | refine ⟨rfl,?_⟩)) ?_);rintro _ _ ⟨rfl,jc,jd,rfl⟩;refine ⟨by simp [Cg],?_⟩;unfold Cg;refine de ?_;refine aj ?_;exact gS
end Go.Xg
namespace Go.Im
open Go.Xp Go.Sp
theorem FZ {l:List ae}:tH l=false↔∀ k,k < l.length->mY l k=false:=by
 unfold tH;rw [any_eq_false];constructor
 ·intro h k hk;have:=h k (List.mem_range.2 hk);simpa using this
 ·intro h k hk;rw [h k (List.mem_range.1 hk)];decide
end Go.Im
namespace Go.Xg
open Go.RowKit Go.Xw Go.Proofs
open Go.Xp (Nd T Ar aD ay c6)
open Go.Sp (Src)
open Go.Im
theorem YG.CK {P:Program} {fr:List GV} {Γ:List Ob} {x up:Operand} {t e:TypeId} {k:Nat} [hT:ma P t e k] {rows:List (List GV)} {kk:IntKind} {i:Nat} (hx:aP fr x=.sl k rows) (XY:aP fr up=.v (.int kk i)) (hi:i < rows.length):YG P (.slice t x none (some up) none) fr Γ (.sl k (rows.take i)):=fun B K β w l hI hF=>by
 have h:=hF.ev x;rw [hx] at h;have Gp:=hF.gy XY;generalize hv:ev l x=v at h
 cases h with
 | sl0 a c=>simp at hi
 | sl b o c _ _ h hc =>
  refine ⟨.slice (some ⟨b,o,none⟩) i c,fun d ty pos af=>?_,?_⟩
  ·have np:¬ (c=0):=by omega
   have hle:(i:Int)<=(c:Int):=by omega
   have yJ:i<=c:=by omega
   simp [execOp,Instr.sliceAt,Instr.slice,Instr.sliceBounds,Instr.sliceBound,asIntOf,hv,Gp,run_underlying hT.und,gY hT.siz,np,hle,yJ,oH]
  ·have:=Rel.sl (K:=K) (β:=β) b o c k (rows.take i) (fun j r hr=>?_) (by simp;omega)
   ·rw [length_take,Nat.min_eq_left (Nat.le_of_lt hi)] at this;exact this
   ·have hj:j < i:=by
     rcases Nat.lt_or_ge j i with h1 | h1
     ·exact h1
     ·rw [List.getElem?_eq_none (by rw [length_take];omega)] at hr;cases hr
    rw [List.getElem?_take,if_pos hj] at hr;exact h j r hr
attribute [local irreducible] GW GL GO YG GC GA aS aW
theorem JY (p:Src) (i:Nat) (f:Go.Sp.Fn) (t:T) (hp:p.nodes.length<=1048576) (eE:∀ n∈p.nodes,n.kids.length<=1099511627776) (kz:p.fns.length<=1099511627776) (iF:p.arrays.length<=1099511627776) (jQ:p.globals.length<=1099511627776)
  (hf:p.fns[i]?=some f) (nz:f.params.length<=1048576) (hb:0<=f.body) (bE:dx p.nodes f.body.toNat t) (b8:aD t<=1048576) :
  GF Tryz.prog 98 [.agg (ar p),.v (ii (i:Nat))] [] (.tup [.v (ii (eU p f t f.body.toNat).1),.v (ii (eU p f t f.body.toNat).2)]) []:=by
 have hr:(p.fns.map au)[i]?=some (au f):=by rw [getElem?_map,hf];rfl
 have dq:(f.params.map fun s=>[GV.v (sv s)]).length=f.params.length:=by simp
 have hE:=Pu p 3 3 3 i f t ⟨0,0,-1⟩ hp eE kz iF jQ hf nz hb bE b8;unfold au at hr;unfold eU;refine ai Tryz.func98 Tryz.ntmps98 ?_;refine GW.range (f.params.map fun s=>[GV.v (sv s)]).length (fun k fr Γ=>fr=[.Zy,.v (ii (i:Nat)),.loc 0 0,.Zy,.Zy,.Zy,strs f.params,.Zy,.Zy,.Zy,.Zy,.Zy,.Zy,.Zy,.Zy,.Zy,.Zy,.Zy,strs f.params,.v (ii ((f.params.map fun s=>[GV.v (sv s)]).length:Int)),.v (ii (k:Nat)),.Zy,.Zy,.Zy,.Zy,.Zy,.Zy,.Zy,.Zy,.Zy,.Zy,.Zy,.Zy,.Zy,.Zy,.Zy,.Zy]/\Γ=[.box 34 (ar p)]/\∀ j,j < k->mY f.params j=false) ?_ ah ?_ ?_ ?_
 ·exact ⟨_,_,Wk.ax al,rfl,rfl,fun j hj=>absurd hj (Nat.not_lt_zero _)⟩
 ·rintro k _ _ ⟨rfl,rfl,_⟩;exact ⟨rfl,rfl,rfl⟩
 ·rintro k _ _ aq ⟨rfl,rfl,aM⟩;have lZ:=aq;rw [dq] at aq;obtain ⟨x,hx⟩:∃ x,f.params[k]?=some x:=⟨f.params[k],by simp [aq]⟩
  have Gt:(f.params.map fun s=>[GV.v (sv s)])[k]?=some [.v (sv x)]:=by rw [getElem?_map,hx];rfl
  have hC:=iH (f.params.take k) x (by rw [length_take];omega)
  have hd:mY f.params k=(f.params.take k).contains x:=by unfold mY;rw [hx]
  rw [<-hd] at hC;unfold strs at hC;rw [map_take] at hC
  cases ey:mY f.params k with
  | true =>
   rw [ey] at hC
   have Ry:tH f.params=true:=by
    cases h:tH f.params with
    | true=>rfl
    | false=>rw [FZ.1 h k aq] at ey;cases ey
   rw [if_pos Ry];refine ab ?_;refine GL.q (YG.CK rfl rfl lZ) ?_;refine cy ?_;refine ab ?_;refine U [] (hC) ?_;exact lH
  | false =>
   rw [ey] at hC;refine ab ?_;refine GL.q (YG.CK rfl rfl lZ) ?_;refine cy ?_;refine ab ?_;refine U [] (hC) ?_
   exact ⟨rfl,rfl,_,_,Wk.ax al,rfl,rfl,fun j hj=>by
    rcases Nat.lt_succ_iff_lt_or_eq.1 hj with h | rfl
    ·exact aM j h
    ·exact ey⟩
 ·rintro _ _ ⟨rfl,rfl,aM⟩;rw [dq] at aM;rw [if_neg (by rw [FZ.2 aM];decide)];refine aL ?_;refine GW.wk (Wk.freeze (i:=0) rfl rfl rfl (Nat.zero_le _)) ?_;refine GW.F5 (bQ:=[.Zy,.v (ii (i:Nat)),.box (ar p) 0,.Zy,.Zy,.Zy,.Zy,.Zy,.Zy,.Zy,.Zy,.Zy,.Zy,.Zy,.Zy,.Zy,.Zy,.Zy,.Zy,.Zy,.Zy,.Zy,.Zy,.Zy,.Zy,.Zy,.Zy,.Zy,.Zy,.Zy,.Zy,.Zy,.Zy,.Zy,.Zy,.Zy,.Zy]) (aH:=[.gone]) al rfl ?_;refine ab ?_;refine U [1,3,2] (hE) ?_;refine GW.draw (.q 0 (.q 1 (.q 2 (.q 3 .nil)))) (by kernel_rfl) (by kernel_rfl) ?_;refine aj ?_;exact qb
end Go.Xg
namespace Go.Im
open Go.Xp Go.Sp
theorem ra {l:List Ar} {k:Nat} {a:Ar} (h:l[k]?=some a):dA (l.take (k+1))=dA (l.take k)+a.size:=by
 unfold dA;rw [take_add_one,h,List.foldl_append];rfl
theorem tG {l:List Ar} (h:∀ a∈l,0<=a.size/\a.size<=2147483648):∀ k,0<=dA (l.take k)/\dA (l.take k)<=(k:Int) * 2147483648:=by
 intro k
 induction k with
 | zero=>simp [dA]
 | succ k ih =>
  cases hx:l[k]? with
  | none =>
   have:l.take (k+1)=l.take k:=by rw [take_add_one,hx];simp
   rw [this];omega
  | some a =>
   have:=h a (mem_of_getElem? hx);rw [ra hx];omega
end Go.Im
namespace Go.Xg
open Go.RowKit Go.Xw Go.Proofs
open Go.Xp (Nd T Ar aD ay)
open Go.Sp (Src)
open Go.Im
attribute [local irreducible] GW GL GO YG GC GA aS aW
theorem LR (p:Src) (kz:p.fns.length<=1099511627776) (iF:p.arrays.length<=1048576) (b8:∀ a∈p.arrays,0<=a.size/\a.size<=2147483648):GF Tryz.prog 95 [.agg (ar p)] [] (.v (.bool (fE p))) []:=by
 have dq:(p.arrays.map az).length=p.arrays.length:=by simp
 have iP:(p.fns.map au).length=p.fns.length:=by simp
 have jQ:(p.globals.map fun s=>[GV.v (sv s)]).length=p.globals.length:=by simp
 have hC:=sJ (om:=121) (fun x=>decide (x.params.length > 40)) p.fns kz (fun x _=>I4 x);unfold fE;generalize p.fns.any (fun x=>decide (x.params.length > 40))=b4 at *;have hb:=tG b8;refine ai Tryz.func95 Tryz.ntmps95 ?_;refine GW.range (p.arrays.map az).length (fun k fr Γ=>fr=[.Zy,.loc 0 0,.Zy,.v (ii (dA (p.arrays.take k))),.Zy,.Zy,.Zy,.sl 2 (p.arrays.map az),.v (ii ((p.arrays.map az).length:Int)),.v (ii (k:Nat)),.Zy,.Zy,.Zy,.Zy,.Zy,.Zy,.Zy,.Zy,.Zy,.Zy,.Zy,.Zy,.Zy,.Zy,.Zy,.Zy,.Zy,.Zy,.Zy,.Zy,.Zy,.Zy,.Zy,.Zy,.Zy,.Zy,.Zy,.Zy,.Zy,.Zy]/\Γ=[.box 34 (ar p)]/\(p.arrays.take k).all (fun a=>!(a.size==0))=true) ?_ ah ?_ ?_ ?_
 ·exact ⟨_,_,Wk.ax al,rfl,rfl,rfl⟩
 ·rintro k _ _ ⟨rfl,rfl,_⟩;exact ⟨rfl,rfl,rfl⟩
 ·rintro k _ _ aq ⟨rfl,rfl,aM⟩;rw [dq] at aq;obtain ⟨x,hx⟩:∃ x,p.arrays[k]?=some x:=⟨p.arrays[k],by simp [aq]⟩
  have hr:(p.arrays.map az)[k]?=some (az x):=by rw [getElem?_map,hx];rfl
  have bp:=lu (f:=fun a:Ar=>a.size==0) hx;have lk:=ra hx;have ed:=hb k;have qY:=b8 x (mem_of_getElem? hx);unfold az at hr
  cases h1:(x.size==0) with
  | true =>
   have:p.arrays.any (fun a=>a.size==0)=true:=List.any_eq_true.2 ⟨x,mem_of_getElem? hx,h1⟩;rw [this];exact av
  | false =>
   rw [lk];generalize dA (p.arrays.take k)=c at *;refine ab ?_;exact ⟨rfl,rfl,_,_,(Wk.cut (n:=1) (Nat.zero_le _) rfl).trans (Wk.ax al),rfl,rfl,by rw [bp,aM,h1];rfl⟩
 ·rintro _ _ ⟨rfl,rfl,aM⟩;rw [dq,take_length] at aM |-
  have:p.arrays.any (fun a=>a.size==0)=false:=by
   rw [any_eq_false];rw [List.all_eq_true] at aM;intro x hx;simpa using aM x hx
  rw [this];have e1:decide (p.fns.length > 40)=decide ((40:Int) < ((p.fns.map au).length:Int)):=decide_eq_decide.2 (by rw [iP];omega);have e2:decide (p.globals.length > 29)=decide ((29:Int) < ((p.globals.map fun s=>[GV.v (sv s)]).length:Int)):=decide_eq_decide.2 (by rw [jQ];omega);have e3:decide (dA p.arrays > 8000)=decide ((8000:Int) < dA p.arrays):=rfl;rw [e1,e2,e3];generalize dA p.arrays=c at *;refine aL ?_
  cases h1:decide ((40:Int) < ((p.fns.map au).length:Int))
  all_goals cases h2:decide ((29:Int) < ((p.globals.map fun s=>[GV.v (sv s)]).length:Int))
  all_goals cases h3:decide ((8000:Int) < c)
  all_goals
   refine ab ?_
   first
    | (refine bK ?_;exact ⟨rfl,rfl⟩)
    | (refine fQ [] (hC) ?_;refine ab ?_;refine bK ?_;exact ⟨rfl,rfl⟩)
end Go.Xg
namespace Go.Im
open Go.Xp Go.Sp
theorem Aw {l:List ae}:dT l=false↔∀ k,k < l.length->jH l k=false:=by
 unfold dT;rw [any_eq_false];constructor
 ·intro h k hk;have:=h k (List.mem_range.2 hk);simpa using this
 ·intro h k hk;rw [h k (List.mem_range.1 hk)];decide
theorem Dc (p:Src) (l:List T) (a:Nat):eV p [] l a=(0,0):=by unfold eV;rfl
end Go.Im
namespace Go.Xg
open Go.RowKit Go.Xw Go.Proofs
open Go.Xp (Nd T Ar aD ay)
open Go.Sp (Src)
open Go.Im
attribute [local irreducible] GW GL GO YG GC GA aS aW
theorem Ja (p:Src) (hF:GF Tryz.prog 92 [.agg (ar p)] [] (.v (.bool false)) []):GF Tryz.prog 72 [.agg (ar p)] [] (.tup [.v (ii 20),.v (ii 0)]) []:=by
 refine ai Tryz.func72 Tryz.ntmps72 ?_;refine U [] (hF) ?_;exact lH
theorem Hv (p:Src) (l:List T) (ns:List ae) (zH:ns.length<=8388608) (iP:p.fns.length=l.length) (kz:p.fns.length<=1048576)
  (hF:GF Tryz.prog 92 [.agg (ar p)] [] (.v (.bool true)) [])
  (hA:GC Tryz.prog 93 [.agg (ar p)] [] fun g Δ=>∃ a c,g=.v (.slice a ns.length c)/\Δ=[.vech 9 1 (aZ ns) (.slice a ns.length c)])
  (hT:GF Tryz.prog 95 [.agg (ar p)] [] (.v (.bool (fE p))) [])
  (hq:∀ i f t,p.fns[i]?=some f->l[i]?=some t->GF Tryz.prog 98 [.agg (ar p),.v (ii (i:Nat))] [] (.tup [.v (ii (eU p f t (ay (l.take i))).1),.v (ii (eU p f t (ay (l.take i))).2)]) []) :
  GF Tryz.prog 72 [.agg (ar p)] []
   (.tup [.v (ii (if dT ns=true then ((21,0):Int × Int) else if fE p=true then (26,0) else if p.fns.any lO=false then (25,0) else eV p p.fns l 0).1),.v (ii (if dT ns=true then ((21,0):Int × Int) else if fE p=true then (26,0) else if p.fns.any lO=false then (25,0) else eV p p.fns l 0).2)]) []:=by
 have dq:(ns.map fun s=>[GV.v (sv s)]).length=ns.length:=by simp
 have Gm:(p.fns.map au).length=p.fns.length:=by simp
 have hM:=sJ (om:=97) lO p.fns ah (fun x _=>Md x);generalize fE p=tm at *;refine ai Tryz.func72 Tryz.ntmps72 ?_;refine U [] (hF) ?_;refine bZ [] (hA) ?_;rintro _ _ ⟨ad,cp,rfl,rfl⟩;refine da ?_;refine GL.wk (Wk.o9 (t:=14) (i:=1) rfl rfl rfl) ?_;refine GL.wk (Wk.cut (n:=1) (Nat.zero_le _) rfl) ?_;refine GL.wk (Wk.ax (bQ:=[.Zy,.loc 0 0,.Zy,.Zy,.Zy,.Zy,.Zy,.Zy,.Zy,.Zy,.Zy,.Zy,.Zy,.Zy,strs ns,.Zy,.Zy,.Zy,.Zy,.Zy,.Zy,.Zy,.Zy,.Zy,.Zy,.Zy,.Zy,.Zy,.Zy,.Zy,.Zy,.Zy,.Zy,.Zy,.Zy,.Zy,.Zy,.Zy,.Zy,.Zy,.Zy,.Zy,.Zy,.Zy,.Zy,.Zy,.Zy,.Zy,.Zy,.Zy,.Zy,.Zy,.Zy,.Zy,.Zy]) al) ?_;refine cy ?_;refine ab ?_;refine GW.range (ns.map fun s=>[GV.v (sv s)]).length (fun k fr Γ=>fr=[.Zy,.loc 0 0,.Zy,.Zy,strs ns,.Zy,.Zy,.Zy,.Zy,.Zy,.Zy,.Zy,.Zy,.Zy,.Zy,strs ns,.v (ii ((ns.map fun s=>[GV.v (sv s)]).length:Int)),.v (ii (k:Nat)),.Zy,.Zy,.Zy,.Zy,.Zy,.Zy,.Zy,.Zy,.Zy,.Zy,.Zy,.Zy,.Zy,.Zy,.Zy,.Zy,.Zy,.Zy,.Zy,.Zy,.Zy,.Zy,.Zy,.Zy,.Zy,.Zy,.Zy,.Zy,.Zy,.Zy,.Zy,.Zy,.Zy,.Zy,.Zy,.Zy,.Zy]/\Γ=[.box 34 (ar p)]/\∀ j,j < k->jH ns j=false) ?_ ah ?_ ?_ ?_
 ·exact ⟨_,_,Wk.ax al,rfl,rfl,fun j hj=>absurd hj (Nat.not_lt_zero _)⟩
 ·rintro k _ _ ⟨rfl,rfl,_⟩;exact ⟨rfl,rfl,rfl⟩
 ·rintro k _ _ aq ⟨rfl,rfl,aM⟩;have lZ:=aq;rw [dq] at aq;obtain ⟨x,hx⟩:∃ x,ns[k]?=some x:=⟨ns[k],by simp [aq]⟩
  have Gt:(ns.map fun s=>[GV.v (sv s)])[k]?=some [.v (sv x)]:=by rw [getElem?_map,hx];rfl
  have hR:=KO x;have hC:=iH (ns.take k) x (by rw [length_take];omega)
  have hd:jH ns k=(lA x || (ns.take k).contains x):=by unfold jH;rw [hx]
  unfold strs at hC;rw [map_take] at hC
  cases h1:lA x with
  | true =>
   rw [h1] at hR hd
   have sV:dT ns=true:=by
    cases h:dT ns with
    | true=>rfl
    | false=>rw [Aw.1 h k aq] at hd;simp at hd
   rw [if_pos sV];refine ab ?_;refine U [] (hR) ?_;exact lH
  | false =>
   rw [h1] at hR hd
   cases ey:(ns.take k).contains x with
   | true =>
    rw [ey] at hC hd
    have sV:dT ns=true:=by
     cases h:dT ns with
     | true=>rfl
     | false=>rw [Aw.1 h k aq] at hd;simp at hd
    rw [if_pos sV];refine ab ?_;refine U [] (hR) ?_;refine GL.q (YG.CK rfl rfl lZ) ?_;refine cy ?_;refine ab ?_;refine U [] (hC) ?_;exact lH
   | false =>
    rw [ey] at hC hd;refine ab ?_;refine U [] (hR) ?_;refine GL.q (YG.CK rfl rfl lZ) ?_;refine cy ?_;refine ab ?_;refine U [] (hC) ?_
    exact ⟨rfl,rfl,_,_,Wk.ax al,rfl,rfl,fun j hj=>by
     rcases Nat.lt_succ_iff_lt_or_eq.1 hj with h | rfl
     ·exact aM j h
     ·exact hd⟩
 ·rintro _ _ ⟨rfl,rfl,aM⟩;rw [dq] at aM;rw [if_neg (show ¬ dT ns=true by rw [Aw.2 aM];decide)];refine aL ?_
  cases tm with
  | true =>
   rw [if_pos rfl];refine ab ?_;refine U [] (hT) ?_;exact lH
  | false =>
   rw [if_neg (by decide)]
   cases hmn:p.fns.any lO with
   | false =>
    rw [hmn] at hM;rw [if_pos rfl];refine ab ?_;refine U [] (hT) ?_;refine U [] (hM) ?_;exact lH
   | true =>
    rw [hmn] at hM;rw [if_neg (by decide)];refine ab ?_;refine U [] (hT) ?_;refine U [] (hM) ?_;refine GW.range (p.fns.map au).length (fun k fr Γ=>fr=[.Zy,.loc 0 0,.Zy,.Zy,.Zy,.Zy,.Zy,.Zy,.Zy,.Zy,.Zy,.Zy,.Zy,.Zy,.Zy,.Zy,.Zy,.Zy,.Zy,.Zy,.Zy,.Zy,.Zy,.Zy,.Zy,.Zy,.Zy,.Zy,.Zy,.Zy,.Zy,.Zy,.Zy,.Zy,.Zy,.Zy,.Zy,.Zy,.Zy,.sl 3 (p.fns.map au),.v (ii ((p.fns.map au).length:Int)),.v (ii (k:Nat)),.Zy,.Zy,.Zy,.Zy,.Zy,.Zy,.Zy,.Zy,.Zy,.Zy,.Zy,.Zy,.Zy]/\Γ=[.box 34 (ar p)]/\eV p p.fns l 0=eV p (p.fns.drop k) (l.drop k) (ay (l.take k))) ?_ ah ?_ ?_ ?_
    ·exact ⟨_,_,Wk.ax al,rfl,rfl,by rw [List.drop_zero,List.drop_zero,List.take_zero,ay]⟩
    ·rintro k _ _ ⟨rfl,rfl,_⟩;exact ⟨rfl,rfl,rfl⟩
    ·rintro k _ _ aq ⟨rfl,rfl,he⟩;rw [Gm] at aq;obtain ⟨f,hf⟩:∃ f,p.fns[k]?=some f:=⟨p.fns[k],by simp [aq]⟩;obtain ⟨t,ht⟩:∃ t,l[k]?=some t:=⟨l[k]'ah,getElem?_eq_getElem _⟩;have hQ:=hq k f t hf ht
     have Kn:p.fns.drop k=f::p.fns.drop (k+1):=by rw [drop_eq_getElem_cons aq];rw [getElem?_eq_getElem aq] at hf;rw [Option.some.inj hf]
     have dk:l.drop k=t::l.drop (k+1):=by rw [drop_eq_getElem_cons ah];rw [getElem?_eq_getElem ah] at ht;rw [Option.some.inj ht]
     rw [Kn,dk,eV,<-NP ht] at he
     cases h1:((eU p f t (ay (l.take k))).1 != 0) with
     | true =>
      rw [if_pos (by simpa using h1)] at he;rw [he];generalize eU p f t (ay (l.take k))=r at *;refine ab ?_;refine U [] (hQ) ?_;exact lH
     | false =>
      rw [if_neg (by simpa using h1)] at he;generalize eU p f t (ay (l.take k))=r at *;refine ab ?_;refine U [] (hQ) ?_;exact ⟨rfl,rfl,_,_,Wk.ax al,rfl,rfl,he⟩
    ·rintro _ _ ⟨rfl,rfl,he⟩;rw [Gm,drop_length,Dc] at he;rw [he];refine aL ?_;exact qb
theorem Kb (p:Src) (c z:Int) (h:GF Tryz.prog 72 [.agg (ar p)] [] (.tup [.v (ii c),.v (ii z)]) []):GF Tryz.prog 43 [.agg (ar p)] [] (.v (.bool (c==0))) []:=by
 refine ai Tryz.func43 Tryz.ntmps43 ?_;refine U [] (h) ?_;exact ao
end Go.Xg
namespace Go.Xg
open Go.RowKit Go.Xw Go.Proofs
open Go.Xp (Nd T Ar aD ay)
open Go.Sp (Src)
open Go.Im
attribute [local irreducible] GW GL GO YG GC GA aS aW
theorem PN (p:Src) (fn:Int) (w g:Bool) (kz:p.fns.length<=1048576) (hg:GF Tryz.prog 43 [.agg (ar p)] [] (.v (.bool g)) [])
  (hW:GF Tryz.prog 83 [.v (ii fn),.v (ii 0),.v (ii (((p.fns.map au).length:Int) - 1))] [] (.v (.bool w)) []):GF Tryz.prog 64 [.agg (ar p),.v (ii fn)] [] (.v (.bool (w&&g))) []:=by
 have Gm:(p.fns.map au).length=p.fns.length:=by simp
 cases w with
 | false =>
  refine ai Tryz.func64 Tryz.ntmps64 ?_;refine U [] (hW) ?_;exact ao
 | true =>
  refine ai Tryz.func64 Tryz.ntmps64 ?_;refine U [] (hW) ?_;refine U [] (hg) ?_;exact ao
theorem Cz (p:Src) (fn:Int) (name:ae) (ks:List Int) (hH:GF Tryz.prog 64 [.agg (ar p),.v (ii fn)] [] (.v (.bool false)) []) :
  GF Tryz.prog 36 [.agg (ar p),.v (ii fn),.v (sv name),ints ks] [] (.v (ii (-1))) []:=by
 refine ai Tryz.func36 Tryz.ntmps36 ?_;refine U [] (hH) ?_;exact ao
theorem AE (p:Src) (i:Nat) (name:ae) (ks:List Int) (f:Go.Sp.Fn) (t:T) (hH:GF Tryz.prog 64 [.agg (ar p),.v (ii (i:Nat))] [] (.v (.bool true)) [])
  (hp:p.nodes.length<=1048576) (eE:∀ n∈p.nodes,n.kids.length<=1099511627776) (ou:ks.length<=1099511627776)
  (hf:p.fns[i]?=some f) (nz:f.params.length<=1048576) (hb:0<=f.body) (bE:dx p.nodes f.body.toNat t) (b8:aD t<=1048576) :
  GF Tryz.prog 36 [.agg (ar p),.v (ii (i:Nat)),.v (sv name),ints ks] [] (.v (ii ((n7 (fa name ks) t f.params:Nat):Int))) []:=by
 have hE:=Pw p name ks 3 i f t hp eE ou hf nz hb bE b8;unfold EH at hE;refine ai Tryz.func36 Tryz.ntmps36 ?_;refine fQ [] (hH) ?_;refine GL.wk (Wk.freeze (i:=0) rfl rfl rfl (Nat.zero_le _)) ?_;refine GL.wk (Wk.freeze (i:=1) rfl rfl rfl (Nat.zero_le _)) ?_;refine GL.wk (Wk.freeze (i:=2) rfl rfl rfl (Nat.zero_le _)) ?_;refine GL.wk (Wk.ax (bQ:=[.Zy,.v (ii (i:Nat)),.Zy,.Zy,.box (ar p) 0,.Zy,.box [.v (sv name)] 0,.box [ints ks] 0,.Zy,.Zy,.Zy,.Zy,.v (.bool true),.Zy,.Zy,.Zy,.Zy,.Zy,.Zy]) al) ?_;refine cy ?_;refine ab ?_;refine U [3] (hE) ?_;exact ao
theorem Mj (p:Src) (fn:Int) (name:ae) (z:Int) (h:GF Tryz.prog 36 [.agg (ar p),.v (ii fn),.v (sv name),ints [2]] [] (.v (ii z)) []) :
  GF Tryz.prog 11 [.agg (ar p),.v (ii fn),.v (sv name)] [] (.v (ii z)) []:=by
 refine ai Tryz.func11 Tryz.ntmps11 ?_;refine bJ ?_;refine ab ?_;refine U [] (h) ?_;exact ao
end Go.Xg
set_option maxHeartbeats 2000000
namespace Go.Xg
open Go.RowKit Go.Xw Go.Proofs
open Go.Xp (Nd T Ar)
open Go.Sp (Src)
open Go.Im
attribute [local irreducible] GW GL GO YG GC GA aS aW
def cC (p:Src) (h:Value) (c:SS):List GV:=[strs p.globals,.sl 2 (p.arrays.map az),.sl 3 (p.fns.map au),.sl 5 (p.nodes.map aw),.v h,.v (ii c.code),.v (ii c.at_)]
theorem gA (p:Src) (h:Value) (c:SS) (k z:Int):GF Tryz.prog 103 [.loc 0 0,.v (ii k),.v (ii z)] [.box 108 (cC p h c)] (.tup []) [.box 108 (cC p h (c.fail k z))]:=by
 unfold SS.fail
 cases hc:(c.code==0) with
 | true =>
  rw [if_pos (by simpa using hc)];unfold cC;refine ai Tryz.func103 Tryz.ntmps103 ?_;exact eX
 | false =>
  rw [if_neg (by simpa using hc)];unfold cC;refine ai Tryz.func103 Tryz.ntmps103 ?_;exact eX
theorem Iq (s:ae):GF Tryz.prog 102 [.v (sv s)] [] (.v (.bool (lA s))) []:=by
 unfold lA nY oU c8
 cases h1:(s==[103,101,116])
 all_goals cases h2:(s==[112,117,116])
 all_goals
  refine ai Tryz.func102 Tryz.ntmps102 ?_;exact ao
theorem zU (p:Src) (s:ae) (hn:p.arrays.length<=1099511627776):GF Tryz.prog 41 [.agg (ar p),.v (sv s)] [] (.v (ii (cX (fun x:Ar=>x.name==s) p.arrays))) []:=by
 have dq:(p.arrays.map az).length=p.arrays.length:=by simp
 refine ai Tryz.func41 Tryz.ntmps41 ?_;refine GW.range (p.arrays.map az).length (fun k fr Γ=>fr=[.Zy,.v (sv s),.loc 0 0,.Zy,.Zy,.Zy,.Zy,.Zy,.sl 2 (p.arrays.map az),.v (ii ((p.arrays.map az).length:Int)),.v (ii (k:Nat)),.Zy,.Zy,.Zy,.Zy,.Zy,.Zy,.Zy,.Zy,.Zy,.Zy]/\Γ=[.box 34 (ar p)]/\(p.arrays.take k).all (fun y=>!(y.name==s))=true) ?_ ah ?_ ?_ ?_
 ·exact ⟨_,_,Wk.ax al,rfl,rfl,rfl⟩
 ·rintro k _ _ ⟨rfl,rfl,_⟩;exact ⟨rfl,rfl,rfl⟩
 ·rintro k _ _ aq ⟨rfl,rfl,aM⟩;rw [dq] at aq;obtain ⟨x,cz⟩:∃ x,p.arrays[k]?=some x:=⟨p.arrays[k],by simp [aq]⟩
  have hr:(p.arrays.map az)[k]?=some (az x):=by rw [getElem?_map,cz];rfl
  have bp:=lu (f:=fun y:Ar=>y.name==s) cz
  have hit:=fun h0=>lz (f:=fun y:Ar=>y.name==s) cz h0 aM
  unfold az at hr
  cases hb:(x.name==s) with
  | true =>
   rw [hit hb];exact av
  | false =>
   refine ab ?_;exact ⟨rfl,rfl,_,_,(Wk.cut (n:=1) (Nat.zero_le _) rfl).trans (Wk.ax al),rfl,rfl,by rw [bp,aM,hb];rfl⟩
 ·rintro _ _ ⟨rfl,rfl,aM⟩;rw [dq,take_length] at aM;rw [iO aM];exact av
theorem GG (p:Src) (s:ae) (hn:p.fns.length<=1099511627776):GF Tryz.prog 104 [.agg (ar p),.v (sv s)] [] (.v (ii (cX (fun x:Go.Sp.Fn=>x.name==s) p.fns))) []:=by
 have dq:(p.fns.map au).length=p.fns.length:=by simp
 refine ai Tryz.func104 Tryz.ntmps104 ?_;refine GW.range (p.fns.map au).length (fun k fr Γ=>fr=[.Zy,.v (sv s),.loc 0 0,.Zy,.Zy,.Zy,.Zy,.Zy,.sl 3 (p.fns.map au),.v (ii ((p.fns.map au).length:Int)),.v (ii (k:Nat)),.Zy,.Zy,.Zy,.Zy,.Zy,.Zy,.Zy,.Zy,.Zy,.Zy]/\Γ=[.box 34 (ar p)]/\(p.fns.take k).all (fun y=>!(y.name==s))=true) ?_ ah ?_ ?_ ?_
 ·exact ⟨_,_,Wk.ax al,rfl,rfl,rfl⟩
 ·rintro k _ _ ⟨rfl,rfl,_⟩;exact ⟨rfl,rfl,rfl⟩
 ·rintro k _ _ aq ⟨rfl,rfl,aM⟩;rw [dq] at aq;obtain ⟨x,cz⟩:∃ x,p.fns[k]?=some x:=⟨p.fns[k],by simp [aq]⟩
  have hr:(p.fns.map au)[k]?=some (au x):=by rw [getElem?_map,cz];rfl
  have bp:=lu (f:=fun y:Go.Sp.Fn=>y.name==s) cz
  have hit:=fun h0=>lz (f:=fun y:Go.Sp.Fn=>y.name==s) cz h0 aM
  unfold au at hr
  cases hb:(x.name==s) with
  | true =>
   rw [hit hb];exact av
  | false =>
   refine ab ?_;exact ⟨rfl,rfl,_,_,(Wk.cut (n:=1) (Nat.zero_le _) rfl).trans (Wk.ax al),rfl,rfl,by rw [bp,aM,hb];rfl⟩
 ·rintro _ _ ⟨rfl,rfl,aM⟩;rw [dq,take_length] at aM;rw [iO aM];exact av
theorem PQ (l:List ae) (s:ae) (hn:l.length<=1099511627776):GF Tryz.prog 80 [strs l,.v (sv s)] [] (.v (ii (tY l s))) []:=by
 have dq:(l.map fun s=>[GV.v (sv s)]).length=l.length:=by simp
 unfold tY;refine ai Tryz.func80 Tryz.ntmps80 ?_;refine GW.range (l.map fun s=>[GV.v (sv s)]).length (fun k fr Γ=>fr=[strs l,.v (sv s),.Zy,.Zy,.Zy,.Zy,.Zy,strs l,.v (ii ((l.map fun s=>[GV.v (sv s)]).length:Int)),.v (ii (k:Nat)),.Zy,.Zy,.Zy,.Zy,.Zy,.Zy,.Zy,.Zy,.Zy]/\Γ=[]/\(l.take k).all (fun y=>!(y==s))=true) ?_ ah ?_ ?_ ?_
 ·exact ⟨_,_,Wk.ax al,rfl,rfl,rfl⟩
 ·rintro k _ _ ⟨rfl,rfl,_⟩;exact ⟨rfl,rfl,rfl⟩
 ·rintro k _ _ aq ⟨rfl,rfl,aM⟩;rw [dq] at aq;obtain ⟨x,cz⟩:∃ x,l[k]?=some x:=⟨l[k],by simp [aq]⟩
  have hr:(l.map fun s=>[GV.v (sv s)])[k]?=some [.v (sv x)]:=by rw [getElem?_map,cz];rfl
  have bp:=lu (f:=fun y:ae=>y==s) cz
  have hit:=fun h0=>lz (f:=fun y:ae=>y==s) cz h0 aM
  cases hb:(x==s) with
  | true =>
   rw [hit hb];exact av
  | false =>
   refine ab ?_;exact ⟨rfl,rfl,_,_,Wk.ax al,rfl,rfl,by rw [bp,aM,hb];rfl⟩
 ·rintro _ _ ⟨rfl,rfl,aM⟩;rw [dq,take_length] at aM;rw [iO aM];exact av
theorem Na (l:List Int) (n:Int) (hn:l.length<=1099511627776):GF Tryz.prog 57 [ints l,.v (ii n)] [] (.v (.bool (l.contains n))) []:=by
 have dq:(l.map fun i=>[GV.v (ii i)]).length=l.length:=by simp
 refine ai Tryz.func57 Tryz.ntmps57 ?_;refine GW.range (l.map fun i=>[GV.v (ii i)]).length (fun k fr Γ=>fr=[ints l,.v (ii n),.Zy,.Zy,.Zy,.Zy,.Zy,ints l,.v (ii ((l.map fun i=>[GV.v (ii i)]).length:Int)),.v (ii (k:Nat)),.Zy,.Zy,.Zy,.Zy,.Zy,.Zy,.Zy]/\Γ=[]/\(l.take k).contains n=false) ?_ ah ?_ ?_ ?_
 ·exact ⟨_,_,Wk.ax al,rfl,rfl,rfl⟩
 ·rintro k _ _ ⟨rfl,rfl,_⟩;exact ⟨rfl,rfl,rfl⟩
 ·rintro k _ _ aq ⟨rfl,rfl,hc⟩;rw [dq] at aq;obtain ⟨x,cz⟩:∃ x,l[k]?=some x:=⟨l[k],by simp [aq]⟩;have hr:=ng cz
  have bp:(l.take (k+1)).contains n=((l.take k).contains n || (x==n)):=by
   rw [take_add_one,cz,List.contains_append];show (_ || [x].contains n)=_
   congr 1
   rw [List.contains_cons,List.contains_nil,Bool.or_false];exact Bool.beq_comm
  have hm:=mem_of_getElem? cz
  cases hb:(x==n) with
  | true =>
   have h3:x=n:=by simpa using hb
   rw [show l.contains n=true by rw [<-h3];exact List.contains_iff_mem.2 hm];exact av
  | false =>
   refine ab ?_;exact ⟨rfl,rfl,_,_,Wk.ax al,rfl,rfl,by rw [bp,hc,hb];rfl⟩
 ·rintro _ _ ⟨rfl,rfl,hc⟩;rw [dq,take_length] at hc;rw [hc];exact av
end Go.Xg
set_option maxHeartbeats 4000000
namespace Go.Im
open Go.Xp Go.Sp
def wa (l:List ae) (k:Nat):Bool:=(List.range k).any (mY l)
theorem BE (l:List ae) (k:Nat):wa l (k+1)=(wa l k || mY l k):=by
 unfold wa;rw [List.range_succ,List.any_append];simp
def jE (f:Go.Sp.Fn) (c:SS) (k:Nat):SS:=⟨f.params.take k,if wa f.params k=true then fw c.code 21 else c.code,if wa f.params k=true/\c.code=0 then 0 else c.at_⟩
theorem Nx {f:Go.Sp.Fn} {c:SS} {k:Nat} (h:mY f.params k=true):(jE f c (k+1)).code=((jE f c k).fail 21 0).code/\(jE f c (k+1)).at_=((jE f c k).fail 21 0).at_:=by
 unfold jE SS.fail;simp only [BE,h,Bool.or_true,true_and,if_true];unfold fw
 cases wa f.params k <;> by_cases h0:c.code=0 <;> simp [h0]
theorem Lo {f:Go.Sp.Fn} {c:SS} {k:Nat} (h:mY f.params k=false):(jE f c (k+1)).code=(jE f c k).code/\(jE f c (k+1)).at_=(jE f c k).at_:=by
 unfold jE;simp only [BE,h,Bool.or_false,and_self]
end Go.Im
namespace Go.Xg
open Go.RowKit Go.Xw Go.Proofs
open Go.Xp (Nd T Ar aD ay)
open Go.Sp (Src)
open Go.Im
attribute [local irreducible] GW GL GO YG GC GA aS aW
theorem Fs (p:Src) (h0:Value) (c:SS) (f:Go.Sp.Fn) (nz:f.params.length<=1048576) :
  GC Tryz.prog 90 [.loc 0 0,.agg (au f)] [.box 108 (cC p h0 c)] fun g Δ=>g=.tup []/\∃ ad cp,Δ=[.box 108 (cC p (.slice ad f.params.length cp) (o0 f c)),.vech 9 1 (aZ f.params) (.slice ad f.params.length cp)]:=by
 have dq:(f.params.map fun s=>[GV.v (sv s)]).length=f.params.length:=by simp
 have vj:o0 f c=⟨f.params,(jE f c f.params.length).code,(jE f c f.params.length).at_⟩:=by
  unfold o0 jE wa tH;rfl
 rw [vj]
 have oP:(jE f c 0).code=c.code/\(jE f c 0).at_=c.at_:=by unfold jE wa;simp
 rw [show cC p h0 c=cC p h0 (jE f c 0) by unfold cC;rw [oP.1,oP.2]];unfold cC au;refine cP Tryz.func90 Tryz.ntmps90 ?_;refine GW.wk (Wk.l8 9 1) ?_;simp only [cons_append,nil_append];refine ab ?_;refine GW.range (f.params.map fun s=>[GV.v (sv s)]).length (fun k fr Γ=>∃ ad cp R n B,fr=[.loc 0 0,.Zy,.Zy,.loc 2 0,.Zy,.Zy,.Zy,.Zy,.Zy,.Zy,strs f.params,.v (ii ((f.params.map fun s=>[GV.v (sv s)]).length:Int)),.v (ii (k:Nat)),.Zy,.Zy,.Zy,.Zy,.Zy,.Zy,.Zy,.Zy,.Zy,.Zy,.Zy,.Zy,.Zy,.Zy,.Zy,.Zy,.Zy,.Zy,.Zy,.Zy,.Zy,.Zy]/\Γ=[.box 108 (cC p (.slice ad n cp) (jE f c k)),.vech 9 1 R (.slice ad n cp),B]/\R.length=n/\R=aZ (f.params.take k)) ?_ ah ?_ ?_ ?_
 ·exact ⟨_,_,Wk.ax al,none,0,[],0,_,rfl,rfl,rfl,by simp [aZ]⟩
 ·rintro k _ _ ⟨ad,cp,R,n,B,rfl,rfl,_⟩;exact ⟨rfl,rfl,rfl⟩
 ·rintro k _ _ aq ⟨ad,cp,R,n,B,rfl,rfl,ew,hR⟩;rw [dq] at aq;obtain ⟨x,hx⟩:∃ x,f.params[k]?=some x:=⟨f.params[k],by simp [aq]⟩
  have Gt:(f.params.map fun s=>[GV.v (sv s)])[k]?=some [.v (sv x)]:=by rw [getElem?_map,hx];rfl
  have bp:aZ (f.params.take (k+1))=R++[[.v (sv x)]]:=by rw [take_add_one,hx,hR];simp [aZ]
  have ur:n<=1048576:=by rw [<-ew,hR,kX,length_take];omega
  have hL:GF Tryz.prog 46 [.sl 1 R,.v (sv x)] [] (.v (.bool ((f.params.take k).contains x))) []:=by
   rw [hR];exact gL (f.params.take k) x (by rw [length_take];omega)
  have hd:mY f.params k=(f.params.take k).contains x:=by unfold mY;rw [hx]
  rw [<-hd] at hL;have fY:=gA p (.slice ad n cp) (jE f c k) 21 0;clear hR
  cases hb:mY f.params k with
  | true =>
   rw [hb] at hL;obtain ⟨e1,e2⟩:=Nx (c:=c) hb;unfold cC at fY |-;rw [e1,e2];generalize (jE f c k).fail 21 0=s1 at *;generalize jE f c k=s0 at *;refine ab ?_;refine GL.borrow hL (fun B K β w l hI hF=>iN (A:=[_]) (C:=[_]) hI hF rfl rfl) ?_;refine cy ?_;refine ab ?_;refine U [0] (fY) ?_;refine GL.ql 1 rfl rfl rfl rfl rfl rfl rfl rfl (by first | rfl | assumption) ⟨⟨by omega,by omega⟩,by decide⟩ ?_;intro nH nI;refine cL ?_;refine ab ?_;exact ⟨rfl,rfl,_,_,Wk.ax al,nH,nI,_,_,_,rfl,rfl,by simp [ew],bp.symm⟩
  | false =>
   rw [hb] at hL;obtain ⟨e1,e2⟩:=Lo (c:=c) hb;unfold cC at fY |-;rw [e1,e2];generalize jE f c k=s0 at *;refine ab ?_;refine GL.borrow hL (fun B K β w l hI hF=>iN (A:=[_]) (C:=[_]) hI hF rfl rfl) ?_;refine cy ?_;refine ab ?_;refine GL.ql 1 rfl rfl rfl rfl rfl rfl rfl rfl (by first | rfl | assumption) ⟨⟨by omega,by omega⟩,by decide⟩ ?_;intro nH nI;refine cL ?_;refine ab ?_;exact ⟨rfl,rfl,_,_,Wk.ax al,nH,nI,_,_,_,rfl,rfl,by simp [ew],bp.symm⟩
 ·rintro _ _ ⟨ad,cp,R,n,B,rfl,rfl,ew,hR⟩;rw [dq] at hR |-;rw [take_length] at hR
  have uu:n=f.params.length:=by rw [<-ew,hR,kX]
  subst uu;refine ab ?_
  (repeat (first | refine GW.ret ?_ | refine cI ?_ | refine cH ?_ | refine aL ?_ | refine bX ?_))
  exact Q5 (n:=2) rfl (by first | exact .inr rfl | exact .inl rfl) (Nat.le_of_ble_eq_true rfl) rfl ⟨rfl,ad,cp,by rw [hR];rfl⟩
end Go.Xg
namespace Go.Xg
open Go.RowKit Go.Xw Go.Proofs
open Go.Xp (Nd T Ar aD ay)
open Go.Sp (Src)
open Go.Im
attribute [local irreducible] GW GL GO YG GC GA aS aW
def cO (p:Src) (c:SS) (ls:List ae) (ad:Option Addr) (cp:Nat):List Ob:=[.box 108 (cC p (.slice ad ls.length cp) c),.vech 9 1 (aZ ls) (.slice ad ls.length cp)]
theorem Fp (p:Src) (c:SS) (n:Nd) (l:List T) (ad:Option Addr) (cp:Nat) (h1:(n.s==[103,101,116])=true) (hl:l.length<=1099511627776) :
  GF Tryz.prog 105 [.loc 0 0,.agg (cT (.mk n l))] (cO p c c.ls ad cp) (.v (.bool true)) (cO p (en c n l.length 0) c.ls ad cp):=by
 have dP:(aJ l).length=l.length:=aO l;unfold cO;unfold en;show GF _ _ _ _ (.v (.bool true)) [.box _ (cC p _ (if l.length≠0 then _ else _)),_];have fY:=gA p (.slice ad c.ls.length cp) c 23 n.at_;unfold cC at fY |-
 cases hk:(((aJ l).length:Int) != ((0:Nat):Int)) with
 | true =>
  rw [if_pos (show l.length≠0 by rw [dP,bne_iff_ne] at hk;omega)];generalize c.fail 23 n.at_=c1 at *;refine ai Tryz.func105 Tryz.ntmps105 ?_;refine U [0] (fY) ?_;exact ao
 | false =>
  rw [if_neg (show ¬ l.length≠0 by rw [dP,bne_eq_false_iff_eq] at hk;omega)];refine ai Tryz.func105 Tryz.ntmps105 ?_;exact ao
theorem Fq (p:Src) (c:SS) (n:Nd) (l:List T) (ad:Option Addr) (cp:Nat) (h1:(n.s==[103,101,116])=false) (h2:(n.s==[112,117,116])=true) (hl:l.length<=1099511627776) :
  GF Tryz.prog 105 [.loc 0 0,.agg (cT (.mk n l))] (cO p c c.ls ad cp) (.v (.bool true)) (cO p (en c n l.length 1) c.ls ad cp):=by
 have dP:(aJ l).length=l.length:=aO l;unfold cO;unfold en;show GF _ _ _ _ (.v (.bool true)) [.box _ (cC p _ (if l.length≠1 then _ else _)),_];have fY:=gA p (.slice ad c.ls.length cp) c 23 n.at_;unfold cC at fY |-
 cases hk:(((aJ l).length:Int) != ((1:Nat):Int)) with
 | true =>
  rw [if_pos (show l.length≠1 by rw [dP,bne_iff_ne] at hk;omega)];generalize c.fail 23 n.at_=c1 at *;refine ai Tryz.func105 Tryz.ntmps105 ?_;refine U [0] (fY) ?_;exact ao
 | false =>
  rw [if_neg (show ¬ l.length≠1 by rw [dP,bne_eq_false_iff_eq] at hk;omega)];refine ai Tryz.func105 Tryz.ntmps105 ?_;exact ao
theorem Io (p:Src) (c:SS) (n:Nd) (l:List T) (ad:Option Addr) (cp:Nat) (h1:(n.s==[103,101,116])=false) (h2:(n.s==[112,117,116])=false) (h3:(n.s==[115,105,122,101])=false) (hl:l.length<=1099511627776)
  (hF:GF Tryz.prog 104 [.agg (ar p),.v (sv n.s)] [] (.v (ii (-1))) []) :
  GF Tryz.prog 105 [.loc 0 0,.agg (cT (.mk n l))] (cO p c c.ls ad cp) (.v (.bool false)) (cO p (c.fail 22 n.at_) c.ls ad cp):=by
 have fY:=gA p (.slice ad c.ls.length cp) c 22 n.at_
 have hd:decide ((-1:Int) < 0)=true:=by decide
 unfold cO;unfold cC at fY |-;generalize c.fail 22 n.at_=c1 at *;refine ai Tryz.func105 Tryz.ntmps105 ?_;refine GW.draw (.q 0 (.q 1 (.q 2 (.q 3 (.q 4 (.q 5 (.q 6 (.a 7 (.q 8 .nil))))))))) (by kernel_rfl) (by kernel_rfl) ?_;refine aj ?_;refine aC [] (hF) ?_;refine ab ?_;refine U [0] (fY) ?_;exact ao
theorem Il (p:Src) (c:SS) (n:Nd) (l:List T) (i:Nat) (f:Go.Sp.Fn) (ad:Option Addr) (cp:Nat) (h1:(n.s==[103,101,116])=false) (h2:(n.s==[112,117,116])=false) (h3:(n.s==[115,105,122,101])=false) (hl:l.length<=1099511627776)
  (hf:p.fns[i]?=some f) (hF:GF Tryz.prog 104 [.agg (ar p),.v (sv n.s)] [] (.v (ii ((i:Nat):Int))) []) :
  GF Tryz.prog 105 [.loc 0 0,.agg (cT (.mk n l))] (cO p c c.ls ad cp) (.v (.bool true)) (cO p (en c n l.length f.params.length) c.ls ad cp):=by
 have dP:(aJ l).length=l.length:=aO l
 have hd:decide (((i:Nat):Int) < 0)=false:=by simp
 have hr:(p.fns.map au)[i]?=some (au f):=by rw [getElem?_map,hf];rfl
 have cJ:(f.params.map fun s=>[GV.v (sv s)]).length=f.params.length:=by simp
 unfold au at hr;rw [<-cJ];unfold cO;unfold en;show GF _ _ _ _ (.v (.bool true)) [.box _ (cC p _ (if l.length≠(f.params.map fun s=>[GV.v (sv s)]).length then _ else _)),_];have fY:=gA p (.slice ad c.ls.length cp) c 23 n.at_;unfold cC at fY |-
 cases hk:(((aJ l).length:Int) != (((f.params.map fun s=>[GV.v (sv s)]).length:Nat):Int)) with
 | true =>
  rw [if_pos (show l.length≠(f.params.map fun s=>[GV.v (sv s)]).length by rw [dP,bne_iff_ne] at hk;omega)];generalize c.fail 23 n.at_=c1 at *;refine ai Tryz.func105 Tryz.ntmps105 ?_;refine GW.draw (.q 0 (.q 1 (.q 2 (.q 3 (.q 4 (.q 5 (.q 6 (.a 7 (.q 8 .nil))))))))) (by kernel_rfl) (by kernel_rfl) ?_;refine aj ?_;refine aC [] (hF) ?_;refine ab ?_;refine U [0] (fY) ?_;exact ao
 | false =>
  rw [if_neg (show ¬ l.length≠(f.params.map fun s=>[GV.v (sv s)]).length by rw [dP,bne_eq_false_iff_eq] at hk;omega)];refine ai Tryz.func105 Tryz.ntmps105 ?_;refine GW.draw (.q 0 (.q 1 (.q 2 (.q 3 (.q 4 (.q 5 (.q 6 (.a 7 (.q 8 .nil))))))))) (by kernel_rfl) (by kernel_rfl) ?_;refine aj ?_;refine aC [] (hF) ?_;exact av
end Go.Xg
namespace Go.Xg
open Go.RowKit Go.Xw Go.Proofs
open Go.Xp (Nd T Ar aD ay)
open Go.Sp (Src)
open Go.Im
attribute [local irreducible] GW GL GO YG GC GA aS aW
theorem CB (p:Src) (c:SS) (n:Nd) (u:T) (ad:Option Addr) (cp:Nat) (h1:(n.s==[103,101,116])=false) (h2:(n.s==[112,117,116])=false) (h3:(n.s==[115,105,122,101])=true) (iF:p.arrays.length<=1099511627776) (fV:c.ls.length<=1099511627776) :
  GF Tryz.prog 105 [.loc 0 0,.agg (cT (.mk n [u]))] (cO p c c.ls ad cp) (.v (.bool false)) (cO p (if eH p u.n c.ls=true then c.fail 24 n.at_ else c) c.ls ad cp):=by
 have qB:(aJ [u])[0]?=some (cT u):=cr rfl;have hA:=zU p u.n.s iF;have hL:=gL c.ls u.n.s fV;have fY:=gA p (.slice ad c.ls.length cp) c 24 n.at_;rw [show eH p u.n c.ls=((u.n.kind != 2 || decide (cX (fun x:Ar=>x.name==u.n.s) p.arrays < 0)) || c.ls.contains u.n.s) from rfl];generalize cX (fun x:Ar=>x.name==u.n.s) p.arrays=z at *;unfold cO;unfold cC at fY |-
 cases h4:(u.n.kind != 2) with
 | true =>
  rw [if_pos (by first | rfl | decide)];generalize c.fail 24 n.at_=c1 at *;refine ai Tryz.func105 Tryz.ntmps105 ?_;refine GW.draw (.q 0 (.q 1 (.q 2 (.q 3 (.q 4 (.q 5 (.q 6 (.q 7 (.q 8 (.q 9 (.q 10 (.q 11 (.q 12 (.q 13 (.q 14 (.q 15 (.q 16 (.q 17 (.q 18 (.q 19 (.q 20 (.a 21 (.q 22 (.q 23 (.q 24 (.q 25 (.q 26 (.q 27 (.q 28 (.q 29 (.q 30 (.q 31 (.q 32 (.q 33 (.q 34 (.a 35 (.q 36 (.q 37 .nil)))))))))))))))))))))))))))))))))))))) (by kernel_rfl) (by kernel_rfl) ?_;refine aj ?_;refine aj ?_;refine ab ?_;refine U [0] (fY) ?_;exact ao
 | false =>
  cases h5:decide (z < 0) with
  | true =>
   rw [if_pos (by first | rfl | decide)];generalize c.fail 24 n.at_=c1 at *;refine ai Tryz.func105 Tryz.ntmps105 ?_;refine GW.draw (.q 0 (.q 1 (.q 2 (.q 3 (.q 4 (.q 5 (.q 6 (.q 7 (.q 8 (.q 9 (.q 10 (.q 11 (.q 12 (.q 13 (.q 14 (.q 15 (.q 16 (.q 17 (.q 18 (.q 19 (.q 20 (.a 21 (.q 22 (.q 23 (.q 24 (.q 25 (.q 26 (.q 27 (.q 28 (.q 29 (.q 30 (.q 31 (.q 32 (.q 33 (.q 34 (.a 35 (.q 36 (.q 37 .nil)))))))))))))))))))))))))))))))))))))) (by kernel_rfl) (by kernel_rfl) ?_;refine aj ?_;refine bz [] (hA) ?_;refine aj ?_;refine ab ?_;refine U [0] (fY) ?_;exact ao
  | false =>
   generalize c.ls.contains u.n.s=b at *
   cases b with
   | true =>
    rw [if_pos (by first | rfl | decide)];generalize c.fail 24 n.at_=c1 at *;refine ai Tryz.func105 Tryz.ntmps105 ?_;refine GW.draw (.q 0 (.q 1 (.q 2 (.q 3 (.q 4 (.q 5 (.q 6 (.q 7 (.q 8 (.q 9 (.q 10 (.q 11 (.q 12 (.q 13 (.q 14 (.q 15 (.q 16 (.q 17 (.q 18 (.q 19 (.q 20 (.a 21 (.q 22 (.q 23 (.q 24 (.q 25 (.q 26 (.q 27 (.q 28 (.q 29 (.q 30 (.q 31 (.q 32 (.q 33 (.q 34 (.a 35 (.q 36 (.q 37 .nil)))))))))))))))))))))))))))))))))))))) (by kernel_rfl) (by kernel_rfl) ?_;refine aj ?_;refine bz [] (hA) ?_;refine Of rfl rfl rfl (by first | exact rfl | assumption) (GL.borrow hL (fun B K β w l hI hF=>iN (A:=[_]) (C:=[_]) hI hF rfl rfl) ?_);refine de ?_;refine aj ?_;refine ab ?_;refine U [0] (fY) ?_;exact ao
   | false =>
    rw [if_neg (by decide)];refine ai Tryz.func105 Tryz.ntmps105 ?_;refine GW.draw (.q 0 (.q 1 (.q 2 (.q 3 (.q 4 (.q 5 (.q 6 (.q 7 (.q 8 (.q 9 (.q 10 (.q 11 (.q 12 (.q 13 (.q 14 (.q 15 (.q 16 (.q 17 (.q 18 (.q 19 (.q 20 (.a 21 (.q 22 (.q 23 (.q 24 (.q 25 (.q 26 (.q 27 (.q 28 (.q 29 (.q 30 (.q 31 (.q 32 (.q 33 (.q 34 (.a 35 (.q 36 (.q 37 .nil)))))))))))))))))))))))))))))))))))))) (by kernel_rfl) (by kernel_rfl) ?_;refine aj ?_;refine bz [] (hA) ?_;refine Of rfl rfl rfl (by first | exact rfl | assumption) (GL.borrow hL (fun B K β w l hI hF=>iN (A:=[_]) (C:=[_]) hI hF rfl rfl) ?_);refine de ?_;refine aj ?_;exact av
theorem CC (p:Src) (c:SS) (n:Nd) (l:List T) (ad:Option Addr) (cp:Nat) (h1:(n.s==[103,101,116])=false) (h2:(n.s==[112,117,116])=false) (h3:(n.s==[115,105,122,101])=true) (hl:l.length≠1) :
  GF Tryz.prog 105 [.loc 0 0,.agg (cT (.mk n l))] (cO p c c.ls ad cp) (.v (.bool false)) (cO p (c.fail 23 n.at_) c.ls ad cp):=by
 have fY:=gA p (.slice ad c.ls.length cp) c 23 n.at_;have dP:(aJ l).length=l.length:=aO l
 have g1:(((aJ l).length:Int)==1)=false:=by rw [dP,beq_eq_false_iff_ne];omega
 have g2:(((aJ l).length:Int) != 1)=true:=by rw [dP,bne_iff_ne];omega
 unfold cO;unfold cC at fY |-;generalize c.fail 23 n.at_=c1 at *;refine ai Tryz.func105 Tryz.ntmps105 ?_;refine GW.draw (.q 0 (.q 1 (.q 2 (.q 3 (.q 4 (.q 5 (.q 6 (.q 7 (.q 8 (.q 9 (.q 10 (.q 11 (.q 12 (.q 13 (.q 14 (.q 15 (.q 16 (.q 17 (.q 18 (.q 19 (.q 20 (.a 21 (.q 22 (.q 23 (.q 24 (.q 25 (.q 26 (.q 27 (.q 28 (.q 29 (.q 30 (.q 31 (.q 32 (.q 33 (.q 34 (.a 35 (.q 36 (.q 37 .nil)))))))))))))))))))))))))))))))))))))) (by kernel_rfl) (by kernel_rfl) ?_;refine aj ?_;refine ab ?_;refine U [0] (fY) ?_;exact ao
end Go.Xg
namespace Go.Xg
open Go.RowKit Go.Xw Go.Proofs
open Go.Xp (Nd T Ar aD ay)
open Go.Sp (Src)
open Go.Im
attribute [local irreducible] GW GL GO YG GC GA aS aW
theorem KT (p:Src) (c:SS) (t:T) (ad:Option Addr) (cp:Nat) (iF:p.arrays.length<=1099511627776) (kz:p.fns.length<=1099511627776) (fV:c.ls.length<=1099511627776) (hl:t.kids.length<=1099511627776) :
  GF Tryz.prog 105 [.loc 0 0,.agg (cT t)] (cO p c c.ls ad cp) (.v (.bool (eY p c t).2)) (cO p (eY p c t).1 c.ls ad cp):=by
 cases t with
 | mk n l =>
 have hl:l.length<=1099511627776:=hl
 cases h1:(n.s==[103,101,116]) with
 | true =>
  have e:eY p c (.mk n l)=(en c n l.length 0,true):=by
   unfold eY nY;exact if_pos (show n.s=_ by simpa using h1)
  rw [e];exact Fp p c n l ad cp h1 hl
 | false =>
  have n1:¬ n.s=[103,101,116]:=by simpa using h1
  cases h2:(n.s==[112,117,116]) with
  | true =>
   have e:eY p c (.mk n l)=(en c n l.length 1,true):=by
    unfold eY nY oU;rw [if_neg (show ¬ (T.mk n l).n.s=_ from n1)];exact if_pos (show n.s=_ by simpa using h2)
   rw [e];exact Fq p c n l ad cp h1 h2 hl
  | false =>
   have n2:¬ n.s=[112,117,116]:=by simpa using h2
   cases h3:(n.s==[115,105,122,101]) with
   | true =>
    have e:eY p c (.mk n l)=(en (if l.length=1/\eH p (lB (.mk n l)) c.ls=true then c.fail 24 n.at_ else c) n l.length 1,false):=by
     unfold eY nY oU c8;rw [if_neg (show ¬ (T.mk n l).n.s=_ from n1),if_neg (show ¬ (T.mk n l).n.s=_ from n2)];exact if_pos (show n.s=_ by simpa using h3)
    rw [e]
    by_cases hk:l.length=1
    ·obtain ⟨u,rfl⟩:∃ u,l=[u]:=by
      match l,hk with
      | [u],_=>exact ⟨u,rfl⟩
     have e2:en (if [u].length=1/\eH p (lB (.mk n [u])) c.ls=true then c.fail 24 n.at_ else c) n [u].length 1=(if eH p u.n c.ls=true then c.fail 24 n.at_ else c):=by
      unfold en;rw [if_neg (by simp)];show (if _/\eH p u.n c.ls=true then _ else _)=_
      by_cases hb:eH p u.n c.ls=true
      ·rw [if_pos hb];exact if_pos ⟨rfl,hb⟩
      ·rw [if_neg hb];exact if_neg fun h=>hb h.2
     rw [e2];exact CB p c n u ad cp h1 h2 h3 iF fV
    ·have e2:en (if l.length=1/\eH p (lB (.mk n l)) c.ls=true then c.fail 24 n.at_ else c) n l.length 1=c.fail 23 n.at_:=by
      rw [if_neg fun h=>hk h.1];unfold en;exact if_pos hk
     rw [e2];exact CC p c n l ad cp h1 h2 h3 hk
   | false =>
    have n3:¬ n.s=[115,105,122,101]:=by simpa using h3
    have hF:=GG p n.s kz;unfold cX at hF
    cases hx:p.fns.findIdx? (fun f:Go.Sp.Fn=>f.name==n.s) with
    | none =>
     rw [hx] at hF
     have e:eY p c (.mk n l)=(c.fail 22 n.at_,false):=by
      unfold eY nY oU c8;rw [if_neg (show ¬ (T.mk n l).n.s=_ from n1),if_neg (show ¬ (T.mk n l).n.s=_ from n2),if_neg (show ¬ (T.mk n l).n.s=_ from n3)];show (match p.fns.findIdx? (fun f:Go.Sp.Fn=>f.name==n.s) with | none=>_ | some i=>_)=_;rw [hx];rfl
     rw [e];exact Io p c n l ad cp h1 h2 h3 hl hF
    | some i =>
     rw [hx] at hF;have hi:i < p.fns.length:=(List.findIdx?_eq_some_iff_getElem.1 hx).1;obtain ⟨f,hf⟩:∃ f,p.fns[i]?=some f:=⟨p.fns[i],by simp [hi]⟩
     have e:eY p c (.mk n l)=(en c n l.length f.params.length,true):=by
      unfold eY nY oU c8;rw [if_neg (show ¬ (T.mk n l).n.s=_ from n1),if_neg (show ¬ (T.mk n l).n.s=_ from n2),if_neg (show ¬ (T.mk n l).n.s=_ from n3)];show (match p.fns.findIdx? (fun f:Go.Sp.Fn=>f.name==n.s) with | none=>_ | some i=>_)=_;rw [hx];show (en c n l.length (kT p i),true)=_;unfold kT;rw [hf]
     rw [e];exact Il p c n l i f ad cp h1 h2 h3 hl hf hF
end Go.Xg
namespace Go.Im
open Go.Xp Go.Sp
theorem B5 (p:Src) (u:T):∀ (l:List T) (c:SS),gC p (l++[u]) c=mj p u (gC p l c)
 | [],c=>by rw [nil_append,gC,gC,gC]
 | t::l,c=>by rw [cons_append,gC,gC,B5 p u l]
theorem Lh (p:Src) {l:List T} {k:Nat} {u:T} (h:l[k]?=some u) (c:SS):gC p (l.take (k+1)) c=mj p u (gC p (l.take k) c):=by
 rw [take_add_one,h];exact B5 p u _ c
theorem N0 (c:SS) (n:Nd):(lf c n).ls.length<=c.ls.length+1:=by
 unfold lf;split
 ·omega
 split
 ·simp [SS.mZ]
 split
 ·simp [SS.mZ]
 ·simp
mutual
theorem P4 (p:Src):∀ (t:T) (c:SS),(mj p t c).ls.length<=c.ls.length+aD t
 | .mk n l,c=>by
  rw [mj,aD];refine Nat.le_trans (N0 _ _) ?_;split
  ·have:=vy p l (iC p c (.mk n l)).1;rw [uO] at this;omega
  ·rw [uO];omega
theorem vy (p:Src):∀ (l:List T) (c:SS),(gC p l c).ls.length<=c.ls.length+ay l
 | [],c=>by rw [gC,ay];omega
 | t::r,c=>by
  rw [gC,ay];have h1:=vy p r (mj p t c);have h2:=P4 p t c;omega
end
end Go.Im
namespace Go.Xg
open Go.RowKit Go.Xw Go.Proofs
open Go.Xp (Nd T Ar aD ay cK)
open Go.Sp (Src)
open Go.Im
attribute [local irreducible] GW GL GO YG GC GA aS aW
theorem KU (p:Src) (iF:p.arrays.length<=1099511627776) (kz:p.fns.length<=1099511627776) (jQ:p.globals.length<=1099511627776):∀ (N:Nat) (t:T),aD t<=N->∀ (c:SS) (ad:Option Addr) (cp:Nat),c.ls.length+aD t<=8388608 ->
  GC Tryz.prog 91 [.loc 0 0,.agg (cT t)] (cO p c c.ls ad cp) fun g Δ=>g=.tup []/\∃ jc jd,Δ=cO p (mj p t c) (mj p t c).ls jc jd:=by
 intro N
 induction N with
 | zero=>intro t h;have:=gP t;omega
 | succ N ih =>
 intro t hN c ad cp fV
 cases t with
 | mk n l =>
 rw [Go.Xp.aD] at hN fV;have ov:=cK l;have dP:(aJ l).length=l.length:=aO l;rw [mj];have cJ:=uO p c (.mk n l);have hL:=gL c.ls n.s ah;have hG:=gL p.globals n.s jQ;have hA:=zU p n.s iF;have hC:=KT p c (.mk n l) ad cp iF kz ah (by show l.length<=_;omega);have Ow:=gA p (.slice ad c.ls.length cp) c 22 n.at_;have Gj:=gA p (.slice ad c.ls.length cp) c 24 n.at_
 have he:iC p c (.mk n l)=(if n.kind=2\/n.kind=7 then (if c.ls.contains n.s=false/\p.globals.contains n.s=false then c.fail 22 n.at_ else c,true)
  else if n.kind=3\/n.kind=8 then (if c.ls.contains n.s=true\/cX (fun x:Ar=>x.name==n.s) p.arrays < 0 then c.fail 24 n.at_ else c,true)
  else if n.kind=4 then eY p c (.mk n l) else (c,true)):=rfl
 obtain ⟨P,hP⟩:∃ P,iC p c (.mk n l)=P:=⟨_,rfl⟩;rw [hP] at he cJ |-;unfold cO at hC |-;unfold cC at hC Ow Gj |-;refine ai Tryz.func91 Tryz.ntmps91 ?_;refine GW.draw (.q 0 (.q 1 (.q 2 (.q 3 (.q 4 (.q 5 (.a 6 (.q 7 .nil)))))))) (by kernel_rfl) (by kernel_rfl) ?_;refine aj ?_;refine OA rfl rfl (GL.borrow hL (fun B K β w l hI hF=>iN (A:=[_]) (C:=[_,_]) hI hF rfl rfl) ?_);refine de ?_;refine aj ?_;refine Hs ?_;refine GW.join (fun fr Γ=>fr=[.loc 0 0,.Zy,.Zy,.loc 2 0,.loc 3 0,.Zy,.v (.bool P.2),.Zy,.Zy,.Zy,.Zy,.Zy,.Zy,.Zy,.Zy,.Zy,.Zy,.Zy,.Zy,.Zy,.Zy,.Zy,.Zy,.Zy,.Zy,.Zy,.Zy,.Zy,.Zy,.Zy,.Zy,.Zy,.Zy,.Zy,.Zy,.Zy,.Zy,.Zy,.Zy,.Zy,.Zy,.Zy,.Zy,.Zy,.Zy,.Zy,.Zy,.Zy,.Zy,.Zy,.Zy,.Zy,.Zy,.Zy,.Zy,.Zy,.Zy,.Zy,.Zy,.Zy,.Zy,.Zy,.Zy,.Zy,.Zy,.Zy,.Zy,.Zy,.Zy,.Zy,.Zy,.Zy,.Zy,.Zy,.Zy,.Zy,.Zy,.Zy,.Zy,.Zy,.Zy,.Zy,.Zy,.Zy,.Zy,.Zy,.Zy,.Zy,.Zy,.Zy,.Zy,.Zy,.Zy,.Zy,.Zy,.Zy,.Zy,.Zy,.Zy,.Zy,.Zy,.Zy,.Zy,.Zy,.Zy,.Zy,.Zy,.Zy,.Zy,.Zy]/\Γ=[.box 108 (cC p (.slice ad c.ls.length cp) P.1),.vech 9 1 (aZ c.ls) (.slice ad c.ls.length cp),.box 56 (cT (.mk n l)),.box 53 (aw n)]) ?_ ?_
 ·obtain ⟨kd,at_,nn,s,ks⟩:=n;simp only at *;unfold cC;generalize eY p c (.mk ⟨kd,at_,nn,s,ks⟩ l)=cs at *;generalize cX (fun x:Ar=>x.name==s) p.arrays=z at *;generalize c.ls.contains s=b at *;generalize p.globals.contains s=g at *;generalize c.fail 22 at_=c22 at *;generalize c.fail 24 at_=c24 at *
  by_cases h2:kd=2
  ·subst h2
   have q2:((2:Int)==2)=true:=by decide
   rw [if_pos (by decide)] at he;subst he
   cases b with
   | true =>
    refine ab ?_;refine GW.draw (.q 0 (.q 1 (.q 2 (.q 3 (.q 4 (.q 5 (.q 6 (.q 7 (.q 8 (.q 9 (.a 10 (.q 11 (.q 12 .nil))))))))))))) (by kernel_rfl) (by kernel_rfl) ?_;refine aj ?_;refine ab ?_;exact ⟨_,_,Wk.ax al,rfl,rfl⟩
   | false =>
    cases g with
    | true =>
     refine ab ?_;refine GW.draw (.q 0 (.q 1 (.q 2 (.q 3 (.q 4 (.q 5 (.q 6 (.q 7 (.q 8 (.q 9 (.a 10 (.q 11 (.q 12 .nil))))))))))))) (by kernel_rfl) (by kernel_rfl) ?_;refine aj ?_;refine bz [] (hG) ?_;refine ab ?_;exact ⟨_,_,Wk.ax al,rfl,rfl⟩
    | false =>
     refine ab ?_;refine GW.draw (.q 0 (.q 1 (.q 2 (.q 3 (.q 4 (.q 5 (.q 6 (.q 7 (.q 8 (.q 9 (.a 10 (.q 11 (.q 12 .nil))))))))))))) (by kernel_rfl) (by kernel_rfl) ?_;refine aj ?_;refine bz [] (hG) ?_;refine ab ?_;refine U [0] (Ow) ?_;exact ⟨_,_,Wk.ax al,rfl,rfl⟩
  by_cases h7:kd=7
  ·subst h7
   have q2:((7:Int)==2)=false:=by decide
   have q7:((7:Int)==7)=true:=by decide
   rw [if_pos (by decide)] at he;subst he
   cases b with
   | true =>
    refine ab ?_;refine GW.draw (.q 0 (.q 1 (.q 2 (.q 3 (.q 4 (.q 5 (.q 6 (.q 7 (.q 8 (.q 9 (.a 10 (.q 11 (.q 12 .nil))))))))))))) (by kernel_rfl) (by kernel_rfl) ?_;refine aj ?_;refine ab ?_;exact ⟨_,_,Wk.ax al,rfl,rfl⟩
   | false =>
    cases g with
    | true =>
     refine ab ?_;refine GW.draw (.q 0 (.q 1 (.q 2 (.q 3 (.q 4 (.q 5 (.q 6 (.q 7 (.q 8 (.q 9 (.a 10 (.q 11 (.q 12 .nil))))))))))))) (by kernel_rfl) (by kernel_rfl) ?_;refine aj ?_;refine bz [] (hG) ?_;refine ab ?_;exact ⟨_,_,Wk.ax al,rfl,rfl⟩
    | false =>
     refine ab ?_;refine GW.draw (.q 0 (.q 1 (.q 2 (.q 3 (.q 4 (.q 5 (.q 6 (.q 7 (.q 8 (.q 9 (.a 10 (.q 11 (.q 12 .nil))))))))))))) (by kernel_rfl) (by kernel_rfl) ?_;refine aj ?_;refine bz [] (hG) ?_;refine ab ?_;refine U [0] (Ow) ?_;exact ⟨_,_,Wk.ax al,rfl,rfl⟩
  rw [if_neg (by rintro (h | h);(· exact h2 h);exact h7 h)] at he
  by_cases h3:kd=3
  ·subst h3
   have q2:((3:Int)==2)=false:=by decide
   have q7:((3:Int)==7)=false:=by decide
   have q3:((3:Int)==3)=true:=by decide
   rw [if_pos (by decide)] at he
   cases b with
   | true =>
    subst he;refine ab ?_;refine GW.draw (.q 0 (.q 1 (.q 2 (.q 3 (.q 4 (.q 5 (.q 6 (.q 7 (.a 8 (.q 9 (.q 10 .nil))))))))))) (by kernel_rfl) (by kernel_rfl) ?_;refine aj ?_;refine ab ?_;refine U [0] (Gj) ?_;exact ⟨_,_,Wk.ax al,rfl,rfl⟩
   | false =>
    cases hz:decide (z < 0) with
    | true =>
     rw [if_pos (.inr (by simpa using hz))] at he;subst he;refine ab ?_;refine GW.draw (.q 0 (.q 1 (.q 2 (.q 3 (.q 4 (.q 5 (.q 6 (.q 7 (.a 8 (.q 9 (.q 10 .nil))))))))))) (by kernel_rfl) (by kernel_rfl) ?_;refine aj ?_;refine bz [] (hA) ?_;refine ab ?_;refine U [0] (Gj) ?_;exact ⟨_,_,Wk.ax al,rfl,rfl⟩
    | false =>
     rw [if_neg (by rintro (h | h);(· cases h);(· simp at hz;omega))] at he;subst he;refine ab ?_;refine GW.draw (.q 0 (.q 1 (.q 2 (.q 3 (.q 4 (.q 5 (.q 6 (.q 7 (.a 8 (.q 9 (.q 10 .nil))))))))))) (by kernel_rfl) (by kernel_rfl) ?_;refine aj ?_;refine bz [] (hA) ?_;refine ab ?_;exact ⟨_,_,Wk.ax al,rfl,rfl⟩
  by_cases h8:kd=8
  ·subst h8
   have q2:((8:Int)==2)=false:=by decide
   have q7:((8:Int)==7)=false:=by decide
   have q3:((8:Int)==3)=false:=by decide
   have q8:((8:Int)==8)=true:=by decide
   rw [if_pos (by decide)] at he
   cases b with
   | true =>
    subst he;refine ab ?_;refine GW.draw (.q 0 (.q 1 (.q 2 (.q 3 (.q 4 (.q 5 (.q 6 (.q 7 (.a 8 (.q 9 (.q 10 .nil))))))))))) (by kernel_rfl) (by kernel_rfl) ?_;refine aj ?_;refine ab ?_;refine U [0] (Gj) ?_;exact ⟨_,_,Wk.ax al,rfl,rfl⟩
   | false =>
    cases hz:decide (z < 0) with
    | true =>
     rw [if_pos (.inr (by simpa using hz))] at he;subst he;refine ab ?_;refine GW.draw (.q 0 (.q 1 (.q 2 (.q 3 (.q 4 (.q 5 (.q 6 (.q 7 (.a 8 (.q 9 (.q 10 .nil))))))))))) (by kernel_rfl) (by kernel_rfl) ?_;refine aj ?_;refine bz [] (hA) ?_;refine ab ?_;refine U [0] (Gj) ?_;exact ⟨_,_,Wk.ax al,rfl,rfl⟩
    | false =>
     rw [if_neg (by rintro (h | h);(· cases h);(· simp at hz;omega))] at he;subst he;refine ab ?_;refine GW.draw (.q 0 (.q 1 (.q 2 (.q 3 (.q 4 (.q 5 (.q 6 (.q 7 (.a 8 (.q 9 (.q 10 .nil))))))))))) (by kernel_rfl) (by kernel_rfl) ?_;refine aj ?_;refine bz [] (hA) ?_;refine ab ?_;exact ⟨_,_,Wk.ax al,rfl,rfl⟩
  rw [if_neg (by rintro (h | h);(· exact h3 h);exact h8 h)] at he
  by_cases h4:kd=4
  ·subst h4
   have q2:((4:Int)==2)=false:=by decide
   have q7:((4:Int)==7)=false:=by decide
   have q3:((4:Int)==3)=false:=by decide
   have q8:((4:Int)==8)=false:=by decide
   have q4:((4:Int)==4)=true:=by decide
   rw [if_pos rfl] at he;subst he;refine ab ?_;refine U [0,1] (hC) ?_;exact ⟨_,_,Wk.ax al,rfl,rfl⟩
  rw [if_neg h4] at he;subst he
  have q2:(kd==2)=false:=by simpa using h2
  have q7:(kd==7)=false:=by simpa using h7
  have q3:(kd==3)=false:=by simpa using h3
  have q8:(kd==8)=false:=by simpa using h8
  have q4:(kd==4)=false:=by simpa using h4
  refine ab ?_;exact ⟨_,_,Wk.ax al,rfl,rfl⟩
 ·rintro _ _ ⟨rfl,rfl⟩;clear he hC Ow Gj;obtain ⟨c1,d⟩:=P;simp only at cJ |-;rw [<-cJ] at fV;rw [show cC p (.slice ad c.ls.length cp) c1=cC p (.slice ad c1.ls.length cp) c1 by rw [cJ],<-cJ];clear hL;refine ab ?_;refine GW.range (aJ l).length (fun k fr Γ=>∃ ad cp c2,fr=[.loc 0 0,.Zy,.Zy,.loc 2 0,.loc 3 0,.Zy,.v (.bool d),.Zy,.Zy,.Zy,.Zy,.Zy,.Zy,.Zy,.Zy,.Zy,.Zy,.Zy,.Zy,.Zy,.Zy,.Zy,.Zy,.Zy,.Zy,.Zy,.Zy,.Zy,.Zy,.Zy,.Zy,.Zy,.Zy,.Zy,.Zy,.Zy,.Zy,.Zy,.Zy,.Zy,.Zy,.Zy,.Zy,.Zy,.Zy,.Zy,.Zy,.Zy,.Zy,.Zy,.Zy,.Zy,.Zy,.Zy,.Zy,.Zy,.Zy,.Zy,.Zy,.Zy,.Zy,.Zy,.Zy,.Zy,.sl 6 (aJ l),.v (ii ((aJ l).length:Int)),.v (ii (k:Nat)),.Zy,.Zy,.Zy,.Zy,.Zy,.Zy,.Zy,.Zy,.Zy,.Zy,.Zy,.Zy,.Zy,.Zy,.Zy,.Zy,.Zy,.Zy,.Zy,.Zy,.Zy,.Zy,.Zy,.Zy,.Zy,.Zy,.Zy,.Zy,.Zy,.Zy,.Zy,.Zy,.Zy,.Zy,.Zy,.Zy,.Zy,.Zy,.Zy,.Zy,.Zy,.Zy,.Zy]/\Γ=[.box 108 (cC p (.slice ad c2.ls.length cp) c2),.vech 9 1 (aZ c2.ls) (.slice ad c2.ls.length cp),.box 56 (cT (.mk n l)),.box 53 (aw n)]/\c2=(if d=true then gC p (l.take k) c1 else c1)) ?_ ah ?_ ?_ ?_
  ·exact ⟨_,_,Wk.ax al,ad,cp,c1,rfl,rfl,by cases d <;> simp [gC]⟩
  ·rintro k _ _ ⟨ad,cp,c2,rfl,rfl,_⟩;exact ⟨rfl,rfl,rfl⟩
  ·rintro k _ _ aq ⟨ad,cp,c2,rfl,rfl,jh⟩;rw [dP] at aq;obtain ⟨u,hu⟩:∃ u,l[k]?=some u:=⟨l[k],by simp [aq]⟩;have hr:=cr hu;have b8:=mQ hu
   cases d with
   | false =>
    refine ab ?_;exact ⟨rfl,rfl,_,_,(Wk.cut (n:=4) (Nat.le_of_ble_eq_true rfl) rfl).trans (Wk.ax al),ad,cp,c2,rfl,rfl,jh⟩
   | true =>
    rw [if_pos rfl] at jh;have hlen:=vy p (l.take k) c1;rw [<-jh] at hlen;have hi:=ih u ah c2 ad cp ah;unfold cO at hi;rw [if_pos rfl,Lh p hu,<-jh];refine ab ?_;refine bZ [0,1] (hi) ?_;rintro _ _ ⟨rfl,jc,jd,rfl⟩;refine da ?_;refine ab ?_;exact ⟨rfl,rfl,_,_,(Wk.cut (n:=4) (Nat.le_of_ble_eq_true rfl) rfl).trans (Wk.ax al),jc,jd,_,rfl,rfl,rfl⟩
  ·rintro _ _ ⟨ad,cp,c2,rfl,rfl,jh⟩;rw [dP,take_length] at jh;rw [<-jh]
   have hlen:c2.ls.length<=8388608:=by
    rw [jh];split
    ·have:=vy p l c1;omega
    ·omega
   clear jh ih;refine aL ?_;have hL:=gL c2.ls n.s ah;have Gn:=kX c2.ls;have Gi:=gA p (.slice ad c2.ls.length cp) c2 21 n.at_;have UD:=gA p (.slice ad c2.ls.length cp) c2 26 n.at_;have Yg:=c2.mZ 21 n.at_;have Yh:=c2.mZ 26 n.at_
   cases hv:(n.kind != 13) with
   | true =>
    have e:lf c2 n=c2:=by unfold lf;exact if_pos (by simpa using hv)
    rw [e];refine ab ?_;refine cE ?_;exact ⟨rfl,ad,cp,rfl⟩
   | false =>
    have zM:¬ n.kind≠13:=by simpa using hv
    unfold cC at Gi UD
    cases hb:c2.ls.contains n.s with
    | true =>
     rw [hb] at hL
     have e:lf c2 n=⟨(c2.fail 21 n.at_).ls++[n.s],(c2.fail 21 n.at_).code,(c2.fail 21 n.at_).at_⟩:=by unfold lf;rw [if_neg zM];exact if_pos hb
     rw [e];generalize c2.fail 21 n.at_=y at *;unfold cC;refine ab ?_;refine GW.draw (.q 0 (.q 1 (.q 2 (.q 3 (.q 4 (.q 5 (.a 6 .nil))))))) (by kernel_rfl) (by kernel_rfl) ?_;refine aj ?_;refine OA rfl rfl (GL.borrow hL (fun B K β w l hI hF=>iN (A:=[_]) (C:=[_,_]) hI hF rfl rfl) ?_);refine de ?_;refine aj ?_;refine ab ?_;refine U [0] (Gi) ?_;refine GW.draw (.q 0 (.q 1 (.q 2 (.q 3 (.q 4 (.q 5 (.q 6 (.a 7 (.a 8 (.q 9 (.q 10 (.a 11 .nil)))))))))))) (by kernel_rfl) (by kernel_rfl) ?_;refine aj ?_;refine dv ?_;refine aj ?_;refine OA rfl rfl (GL.n5 1 (news:=[[.v (sv n.s)]]) rfl rfl rfl (by first | rfl | assumption) rfl rfl (by refine ⟨?_,?_⟩;(· show _+1<=_;omega);(· show (_+1) * _<=_;omega)) ?_);intro nH nI;refine de ?_;refine aj ?_;refine ab ?_;refine cE ?_;exact ⟨rfl,nH,nI,by simp [cO,cC,aZ,Yg]⟩
    | false =>
     rw [hb] at hL
     cases h40:((c2.ls.length:Int)==40) with
     | true =>
      have e:lf c2 n=⟨(c2.fail 26 n.at_).ls++[n.s],(c2.fail 26 n.at_).code,(c2.fail 26 n.at_).at_⟩:=by
       unfold lf;rw [if_neg zM,if_neg (by rw [hb];decide)];exact if_pos (by rw [beq_iff_eq] at h40;omega)
      rw [e];generalize c2.fail 26 n.at_=y at *;unfold cC;refine ab ?_;refine GW.draw (.q 0 (.q 1 (.q 2 (.q 3 (.q 4 (.q 5 (.a 6 .nil))))))) (by kernel_rfl) (by kernel_rfl) ?_;refine aj ?_;refine OA rfl rfl (GL.borrow hL (fun B K β w l hI hF=>iN (A:=[_]) (C:=[_,_]) hI hF rfl rfl) ?_);refine de ?_;refine aj ?_;refine ab ?_;refine U [0] (UD) ?_;refine GW.draw (.q 0 (.q 1 (.q 2 (.q 3 (.q 4 (.q 5 (.q 6 (.a 7 (.a 8 (.q 9 (.q 10 (.a 11 .nil)))))))))))) (by kernel_rfl) (by kernel_rfl) ?_;refine aj ?_;refine dv ?_;refine aj ?_;refine OA rfl rfl (GL.n5 1 (news:=[[.v (sv n.s)]]) rfl rfl rfl (by first | rfl | assumption) rfl rfl (by refine ⟨?_,?_⟩;(· show _+1<=_;omega);(· show (_+1) * _<=_;omega)) ?_);intro nH nI;refine de ?_;refine aj ?_;refine ab ?_;refine cE ?_;exact ⟨rfl,nH,nI,by simp [cO,cC,aZ,Yh]⟩
     | false =>
      have e:lf c2 n=⟨c2.ls++[n.s],c2.code,c2.at_⟩:=by
       unfold lf;rw [if_neg zM,if_neg (by rw [hb];decide)];exact if_neg (by rw [beq_eq_false_iff_ne] at h40;omega)
      rw [e];unfold cC;refine ab ?_;refine GW.draw (.q 0 (.q 1 (.q 2 (.q 3 (.q 4 (.q 5 (.a 6 .nil))))))) (by kernel_rfl) (by kernel_rfl) ?_;refine aj ?_;refine OA rfl rfl (GL.borrow hL (fun B K β w l hI hF=>iN (A:=[_]) (C:=[_,_]) hI hF rfl rfl) ?_);refine de ?_;refine aj ?_;refine ab ?_;refine GW.draw (.q 0 (.q 1 (.q 2 (.q 3 (.q 4 (.q 5 (.q 6 (.a 7 (.a 8 (.q 9 (.q 10 (.a 11 .nil)))))))))))) (by kernel_rfl) (by kernel_rfl) ?_;refine aj ?_;refine dv ?_;refine aj ?_;refine OA rfl rfl (GL.n5 1 (news:=[[.v (sv n.s)]]) rfl rfl rfl (by first | rfl | assumption) rfl rfl (by refine ⟨?_,?_⟩;(· show _+1<=_;omega);(· show (_+1) * _<=_;omega)) ?_);intro nH nI;refine de ?_;refine aj ?_;refine ab ?_;refine cE ?_;exact ⟨rfl,nH,nI,by simp [cO,cC,aZ]⟩
end Go.Xg
namespace Go.Xg
open Go.RowKit Go.Xw Go.Proofs
open Go.Xp (Nd T Ar aD ay)
open Go.Sp (Src)
open Go.Im
attribute [local irreducible] GW GL GO YG GC GA aS aW
theorem AM (p:Src) (h:Value) (k e:Int):GF Tryz.prog 103 [.loc 0 0,.v (ii e),.v (ii 0)] [.box 108 (cC p h ⟨[],k,0⟩)] (.tup []) [.box 108 (cC p h ⟨[],fw k e,0⟩)]:=by
 have:=gA p h ⟨[],k,0⟩ e 0
 rwa [show (SS.fail ⟨[],k,0⟩ e 0)=⟨[],fw k e,0⟩ by unfold SS.fail fw;by_cases hk:k=0 <;> simp [hk]] at this
theorem DN (p:Src) (h:Value) (k:Int) (iF:p.arrays.length<=1048576) (b8:∀ a∈p.arrays,0<=a.size/\a.size<=2147483648)
  (rest:(p.arrays.all fun a=>!lF a)=true->GF Tryz.prog 89 [.loc 0 0] [.box 108 (cC p h ⟨[],k,0⟩)] (.tup []) [.box 108 (cC p h ⟨[],p7 p k,0⟩)]) :
  GF Tryz.prog 89 [.loc 0 0] [.box 108 (cC p h ⟨[],k,0⟩)] (.tup []) [.box 108 (cC p h ⟨[],p7 p k,0⟩)]:=by
 cases sU:(p.arrays.all fun a=>!lF a) with
 | true=>exact rest sU
 | false =>
 have dq:(p.arrays.map az).length=p.arrays.length:=by simp
 have hb:=tG b8;have wm:=AM p h k 26
 have Dl:p.arrays.any lF=true:=by
  cases h0:p.arrays.any lF with
  | true=>rfl
  | false =>
   rw [any_eq_false] at h0;rw [List.all_eq_false] at sU;obtain ⟨x,hx,h1⟩:=sU;have:=h0 x hx;simp at h1;rw [h1] at this;exact absurd rfl this
 rw [show p7 p k=fw k 26 by unfold p7;exact if_pos Dl];unfold cC at wm |-;refine ai Tryz.func89 Tryz.ntmps89 ?_;refine GW.range (p.arrays.map az).length (fun k' fr Γ=>fr=[.loc 0 0,.Zy,.v (ii (dA (p.arrays.take k'))),.Zy,.Zy,.Zy,.Zy,.Zy,.Zy,.Zy,.Zy,.Zy,.sl 2 (p.arrays.map az),.v (ii ((p.arrays.map az).length:Int)),.v (ii (k':Nat)),.Zy,.Zy,.Zy,.Zy,.Zy,.Zy,.Zy,.Zy,.Zy,.Zy,.Zy,.Zy,.Zy,.Zy,.Zy,.Zy,.Zy,.Zy,.Zy,.Zy,.Zy,.Zy,.Zy,.Zy,.Zy,.Zy,.Zy,.Zy,.Zy,.Zy,.Zy,.Zy,.Zy,.Zy,.Zy,.Zy,.Zy,.Zy,.Zy,.Zy,.Zy,.Zy,.Zy,.Zy,.Zy,.Zy,.Zy,.Zy,.Zy,.Zy,.Zy,.Zy,.Zy,.Zy,.Zy,.Zy,.Zy,.Zy,.Zy,.Zy,.Zy,.Zy,.Zy,.Zy,.Zy,.Zy,.Zy,.Zy,.Zy,.Zy,.Zy,.Zy,.Zy,.Zy,.Zy,.Zy,.Zy,.Zy,.Zy]/\Γ=[.box 108 [strs p.globals,.sl 2 (p.arrays.map az),.sl 3 (p.fns.map au),.sl 5 (p.nodes.map aw),.v h,.v (ii k),.v (ii 0)]]/\(p.arrays.take k').all (fun a=>!lF a)=true) ?_ ah ?_ ?_ ?_
 ·exact ⟨_,_,Wk.ax al,rfl,rfl,rfl⟩
 ·rintro k' _ _ ⟨rfl,rfl,_⟩;exact ⟨rfl,rfl,rfl⟩
 ·rintro k' _ _ aq ⟨rfl,rfl,aM⟩;rw [dq] at aq;obtain ⟨x,hx⟩:∃ x,p.arrays[k']?=some x:=⟨p.arrays[k'],by simp [aq]⟩
  have hr:(p.arrays.map az)[k']?=some (az x):=by rw [getElem?_map,hx];rfl
  have bp:=lu (f:=lF) hx;have lk:=ra hx;have ed:=hb k';have qY:=b8 x (mem_of_getElem? hx);have hd:lF x=(decide (x.size < 1) || decide (8000 < x.size)):=rfl;unfold az at hr
  cases h1:decide (x.size < 1) with
  | true =>
   refine ab ?_;refine U [0] (wm) ?_;exact eX
  | false =>
   cases h2:decide (8000 < x.size) with
   | true =>
    refine ab ?_;refine U [0] (wm) ?_;exact eX
   | false =>
    rw [lk];generalize dA (p.arrays.take k')=c at *;refine ab ?_;exact ⟨rfl,rfl,_,_,(Wk.cut (n:=1) (Nat.le_refl _) rfl).trans (Wk.ax al),rfl,rfl,by rw [bp,aM,hd,h1,h2];rfl⟩
 ·rintro _ _ ⟨rfl,rfl,aM⟩;rw [dq,take_length] at aM;rw [aM] at sU;cases sU
end Go.Xg
namespace Go.Im
open Go.Xp Go.Sp
theorem PC (k e:Int) (he:e≠0):fw (fw k e) e=fw k e:=by unfold fw;by_cases h:k=0 <;> simp [h,he]
end Go.Im
namespace Go.Xg
open Go.RowKit Go.Xw Go.Proofs
open Go.Xp (Nd T Ar aD ay)
open Go.Sp (Src)
open Go.Im
attribute [local irreducible] GW GL GO YG GC GA aS aW
theorem CD (p:Src) (h:Value) (k:Int) (iF:p.arrays.length<=1048576) (kz:p.fns.length<=1048576) (b8:∀ a∈p.arrays,0<=a.size/\a.size<=2147483648) (sU:(p.arrays.all fun a=>!lF a)=true) :
  GF Tryz.prog 89 [.loc 0 0] [.box 108 (cC p h ⟨[],k,0⟩)] (.tup []) [.box 108 (cC p h ⟨[],p7 p k,0⟩)]:=by
 have dq:(p.arrays.map az).length=p.arrays.length:=by simp
 have iP:(p.fns.map au).length=p.fns.length:=by simp
 have jQ:(p.globals.map fun s=>[GV.v (sv s)]).length=p.globals.length:=by simp
 have hb:=tG b8
 have Dl:p.arrays.any lF=false:=by
  rw [any_eq_false];rw [List.all_eq_true] at sU;intro x hx;simpa using sU x hx
 have wm:=AM p h;unfold cC at wm |-;refine ai Tryz.func89 Tryz.ntmps89 ?_;refine GW.range (p.arrays.map az).length (fun k' fr Γ=>fr=[.loc 0 0,.Zy,.v (ii (dA (p.arrays.take k'))),.Zy,.Zy,.Zy,.Zy,.Zy,.Zy,.Zy,.Zy,.Zy,.sl 2 (p.arrays.map az),.v (ii ((p.arrays.map az).length:Int)),.v (ii (k':Nat)),.Zy,.Zy,.Zy,.Zy,.Zy,.Zy,.Zy,.Zy,.Zy,.Zy,.Zy,.Zy,.Zy,.Zy,.Zy,.Zy,.Zy,.Zy,.Zy,.Zy,.Zy,.Zy,.Zy,.Zy,.Zy,.Zy,.Zy,.Zy,.Zy,.Zy,.Zy,.Zy,.Zy,.Zy,.Zy,.Zy,.Zy,.Zy,.Zy,.Zy,.Zy,.Zy,.Zy,.Zy,.Zy,.Zy,.Zy,.Zy,.Zy,.Zy,.Zy,.Zy,.Zy,.Zy,.Zy,.Zy,.Zy,.Zy,.Zy,.Zy,.Zy,.Zy,.Zy,.Zy,.Zy,.Zy,.Zy,.Zy,.Zy,.Zy,.Zy,.Zy,.Zy,.Zy,.Zy,.Zy,.Zy,.Zy,.Zy]/\Γ=[.box 108 [strs p.globals,.sl 2 (p.arrays.map az),.sl 3 (p.fns.map au),.sl 5 (p.nodes.map aw),.v h,.v (ii k),.v (ii 0)]]) ?_ ah ?_ ?_ ?_
 ·exact ⟨_,_,Wk.ax al,rfl,rfl⟩
 ·rintro k' _ _ ⟨rfl,rfl⟩;exact ⟨rfl,rfl,rfl⟩
 ·rintro k' _ _ aq ⟨rfl,rfl⟩;rw [dq] at aq;obtain ⟨x,hx⟩:∃ x,p.arrays[k']?=some x:=⟨p.arrays[k'],by simp [aq]⟩
  have hr:(p.arrays.map az)[k']?=some (az x):=by rw [getElem?_map,hx];rfl
  have lk:=ra hx;have ed:=hb k';have qY:=b8 x (mem_of_getElem? hx)
  have hd:lF x=false:=by
   rw [any_eq_false] at Dl;have:=Dl x (mem_of_getElem? hx);simpa using this
  unfold lF at hd;rw [Bool.or_eq_false_iff] at hd;obtain ⟨h1,h2⟩:=hd;have h2:decide (8000 < x.size)=false:=h2;unfold az at hr;rw [lk];generalize dA (p.arrays.take k')=c at *;refine ab ?_;exact ⟨rfl,rfl,_,_,(Wk.cut (n:=1) (Nat.le_refl _) rfl).trans (Wk.ax al),rfl,rfl⟩
 ·rintro _ _ ⟨rfl,rfl⟩;rw [dq,take_length];refine aL ?_;refine GW.seq ?_;have e1:decide (p.fns.length > 40)=decide ((40:Int) < ((p.fns.map au).length:Int)):=decide_eq_decide.2 (by rw [iP];omega);have e2:decide (p.globals.length > 29)=decide ((29:Int) < ((p.globals.map fun s=>[GV.v (sv s)]).length:Int)):=decide_eq_decide.2 ah
  have VH:rJ p=((decide ((40:Int) < ((p.fns.map au).length:Int)) || decide ((29:Int) < ((p.globals.map fun s=>[GV.v (sv s)]).length:Int))) || decide ((8000:Int) < dA p.arrays)):=by unfold rJ;rw [e1,e2]
  refine GW.join (fun fr Γ=>fr=[.loc 0 0,.Zy,.Zy,.Zy,.Zy,.Zy,.Zy,.Zy,.Zy,.Zy,.Zy,.Zy,.Zy,.Zy,.Zy,.Zy,.Zy,.Zy,.Zy,.Zy,.Zy,.Zy,.Zy,.Zy,.Zy,.Zy,.Zy,.Zy,.Zy,.Zy,.Zy,.Zy,.Zy,.Zy,.Zy,.Zy,.Zy,.Zy,.Zy,.Zy,.Zy,.Zy,.Zy,.Zy,.Zy,.Zy,.Zy,.Zy,.Zy,.Zy,.Zy,.Zy,.Zy,.Zy,.Zy,.Zy,.Zy,.Zy,.Zy,.Zy,.Zy,.Zy,.Zy,.Zy,.Zy,.Zy,.Zy,.Zy,.Zy,.Zy,.Zy,.Zy,.Zy,.Zy,.Zy,.Zy,.Zy,.Zy,.Zy,.Zy,.Zy,.Zy,.Zy,.Zy,.Zy,.Zy,.Zy,.Zy,.Zy,.Zy,.Zy,.Zy,.Zy,.Zy]/\Γ=[.box 108 [strs p.globals,.sl 2 (p.arrays.map az),.sl 3 (p.fns.map au),.sl 5 (p.nodes.map aw),.v h,.v (ii (if rJ p=true then fw k 26 else k)),.v (ii 0)]]) ?_ ?_
  ·rw [VH];have H0:=wm k 26;generalize dA p.arrays=c at *
   cases h1:decide ((40:Int) < ((p.fns.map au).length:Int))
   all_goals cases h2:decide ((29:Int) < ((p.globals.map fun s=>[GV.v (sv s)]).length:Int))
   all_goals cases h3:decide ((8000:Int) < c)
   all_goals
    refine ab ?_
    first
     | exact ⟨_,_,Wk.ax al,rfl,rfl⟩
     | (refine fQ [0] (H0) ?_;refine ab ?_;exact ⟨_,_,Wk.ax al,rfl,rfl⟩)
  ·rintro _ _ ⟨rfl,rfl⟩;generalize sX:(if rJ p=true then fw k 26 else k)=k1
   have TG:∀ j:Nat,∀ x:Go.Sp.Fn,p.fns[j]?=some x->(p.fns.take (j+1)).any (fun f=>decide (f.params.length > 40))=((p.fns.take j).any (fun f=>decide (f.params.length > 40)) || decide (x.params.length > 40)):=fun j x hx=>by
    rw [take_add_one,hx,List.any_append];simp
   refine ab ?_;refine GW.range (p.fns.map au).length (fun j fr Γ=>∃ kk,fr=[.loc 0 0,.Zy,.Zy,.Zy,.Zy,.Zy,.Zy,.Zy,.Zy,.Zy,.Zy,.Zy,.Zy,.Zy,.Zy,.Zy,.Zy,.Zy,.Zy,.Zy,.Zy,.Zy,.Zy,.Zy,.Zy,.Zy,.Zy,.Zy,.Zy,.Zy,.Zy,.Zy,.Zy,.Zy,.Zy,.Zy,.Zy,.Zy,.Zy,.Zy,.Zy,.Zy,.Zy,.Zy,.Zy,.Zy,.Zy,.Zy,.Zy,.Zy,.Zy,.Zy,.Zy,.Zy,.Zy,.Zy,.Zy,.Zy,.Zy,.sl 3 (p.fns.map au),.v (ii ((p.fns.map au).length:Int)),.v (ii (j:Nat)),.Zy,.Zy,.Zy,.Zy,.Zy,.Zy,.Zy,.Zy,.Zy,.Zy,.Zy,.Zy,.Zy,.Zy,.Zy,.Zy,.Zy,.Zy,.Zy,.Zy,.Zy,.Zy,.Zy,.Zy,.Zy,.Zy,.Zy,.Zy,.Zy,.Zy,.Zy,.Zy]/\Γ=[.box 108 [strs p.globals,.sl 2 (p.arrays.map az),.sl 3 (p.fns.map au),.sl 5 (p.nodes.map aw),.v h,.v (ii kk),.v (ii 0)]]/\kk=(if (p.fns.take j).any (fun f=>decide (f.params.length > 40))=true then fw k1 26 else k1)) ?_ ah ?_ ?_ ?_
   ·exact ⟨_,_,Wk.ax al,k1,rfl,rfl,by simp⟩
   ·rintro j _ _ ⟨kk,rfl,rfl,_⟩;exact ⟨rfl,rfl,rfl⟩
   ·rintro j _ _ aq ⟨kk,rfl,rfl,jy⟩;rw [iP] at aq;obtain ⟨x,hx⟩:∃ x,p.fns[j]?=some x:=⟨p.fns[j],by simp [aq]⟩
    have hr:(p.fns.map au)[j]?=some (au x):=by rw [getElem?_map,hx];rfl
    have cJ:(x.params.map fun s=>[GV.v (sv s)]).length=x.params.length:=by simp
    have py:=TG j x hx;have hd:decide (x.params.length > 40)=decide ((40:Int) < ((x.params.map fun s=>[GV.v (sv s)]).length:Int)):=decide_eq_decide.2 ah;have H0:=wm kk 26;rw [py,hd];unfold au at hr
    cases h1:decide ((40:Int) < ((x.params.map fun s=>[GV.v (sv s)]).length:Int)) with
    | true =>
     have e:fw kk 26=fw k1 26:=by rw [jy];split;(· exact PC _ _ (by decide));rfl
     rw [e] at H0;refine ab ?_;refine U [0] (H0) ?_;exact ⟨rfl,rfl,_,_,(Wk.cut (n:=1) (Nat.le_refl _) rfl).trans (Wk.ax al),_,rfl,rfl,by simp⟩
    | false =>
     refine ab ?_;exact ⟨rfl,rfl,_,_,(Wk.cut (n:=1) (Nat.le_refl _) rfl).trans (Wk.ax al),kk,rfl,rfl,by rw [jy,Bool.or_false]⟩
   ·rintro _ _ ⟨kk,rfl,rfl,jy⟩;rw [iP,take_length] at jy
    have hs:p7 p k=(if iZ p=true then fw kk 25 else kk):=by
     unfold p7;rw [if_neg (by rw [Dl];decide),sX,<-jy]
    rw [hs];refine aL ?_;have Rh:=wm kk 25;have hM:=GG p uB ah;unfold cX at hM;clear hs jy sX
    cases hx:p.fns.findIdx? (fun f:Go.Sp.Fn=>f.name==uB) with
    | none =>
     rw [hx] at hM
     have hd:decide ((-1:Int) < 0)=true:=by decide
     simp only at hM;rw [show (if iZ p=true then fw kk 25 else kk)=fw kk 25 from if_pos (by unfold iZ;rw [hx])];refine ab ?_;refine U [] (hM) ?_;refine U [0] (Rh) ?_;exact eX
    | some i =>
     rw [hx] at hM;have hi:i < p.fns.length:=(List.findIdx?_eq_some_iff_getElem.1 hx).1;obtain ⟨f,hf⟩:∃ f,p.fns[i]?=some f:=⟨p.fns[i],by simp [hi]⟩
     have hr:(p.fns.map au)[i]?=some (au f):=by rw [getElem?_map,hf];rfl
     have cJ:(f.params.map fun s=>[GV.v (sv s)]).length=f.params.length:=by simp
     have hd:decide (((i:Nat):Int) < 0)=false:=by simp
     have jU:decide (kT p i > 0)=decide ((0:Int) < ((f.params.map fun s=>[GV.v (sv s)]).length:Int)):=by
      unfold kT;rw [hf];exact decide_eq_decide.2 (by simp only;omega)
     simp only at hM
     have po:iZ p=decide (kT p i > 0):=by unfold iZ;rw [hx]
     rw [jU] at po;unfold au at hr
     cases h1:decide ((0:Int) < ((f.params.map fun s=>[GV.v (sv s)]).length:Int)) with
     | true =>
      rw [show (if iZ p=true then fw kk 25 else kk)=fw kk 25 from if_pos (by rw [po,h1])];refine ab ?_;refine U [] (hM) ?_;refine U [0] (Rh) ?_;exact eX
     | false =>
      rw [show (if iZ p=true then fw kk 25 else kk)=kk from if_neg (by rw [po,h1];decide)];refine ab ?_;refine U [] (hM) ?_;exact eX
end Go.Xg
namespace Go.Im
open Go.Xp Go.Sp
theorem MI (p:Src) (l:List T) (c:SS):mx p [] l c=c:=by unfold mx;rfl
end Go.Im
namespace Go.Xg
open Go.RowKit Go.Xw Go.Proofs
open Go.Xp (Nd T Ar aD ay)
open Go.Sp (Src)
open Go.Im
attribute [local irreducible] GW GL GO YG GC GA aS aW
theorem I9 (p:Src) (hF:GF Tryz.prog 87 [.agg (ar p)] [] (.v (.bool false)) []):GF Tryz.prog 71 [.agg (ar p)] [] (.tup [.v (ii 20),.v (ii 0)]) []:=by
 refine ai Tryz.func71 Tryz.ntmps71 ?_;refine U [] (hF) ?_;exact lH
theorem Hu (p:Src) (l:List T) (c1 c2:SS) (iP:p.fns.length=l.length) (kz:p.fns.length<=1048576) (iF:p.arrays.length<=1099511627776) (jQ:p.globals.length<=1099511627776)
  (nz:∀ f∈p.fns,f.params.length<=1048576) (b8:∀ t∈l,aD t<=1048576)
  (hF:GF Tryz.prog 87 [.agg (ar p)] [] (.v (.bool true)) [])
  (hN:GF Tryz.prog 88 [.loc 0 0] [.box 108 (cC p (.slice none 0 0) ⟨[],0,0⟩)] (.tup []) [.box 108 (cC p (.slice none 0 0) c1)])
  (hS:GF Tryz.prog 89 [.loc 0 0] [.box 108 (cC p (.slice none 0 0) c1)] (.tup []) [.box 108 (cC p (.slice none 0 0) c2)])
  (oR:∀ (i:Nat) (f:Go.Sp.Fn) (t:T),p.fns[i]?=some f->l[i]?=some t->GF Tryz.prog 60 [.agg (ar p),.v (ii f.body)] [] (.agg (cT t)) []) :
  GF Tryz.prog 71 [.agg (ar p)] [] (.tup [.v (ii (mx p p.fns l c2).code),.v (ii (mx p p.fns l c2).at_)]) []:=by
 have Gm:(p.fns.map au).length=p.fns.length:=by simp
 unfold cC at hN hS;refine ai Tryz.func71 Tryz.ntmps71 ?_;refine U [] (hF) ?_;refine U [1] (hN) ?_;refine U [1] (hS) ?_;refine GW.range (p.fns.map au).length (fun k fr Γ=>∃ h c,fr=[.Zy,.loc 0 0,.Zy,.Zy,.loc 1 0,.Zy,.Zy,.Zy,.Zy,.Zy,.Zy,.Zy,.Zy,.Zy,.Zy,.Zy,.Zy,.Zy,.sl 3 (p.fns.map au),.v (ii ((p.fns.map au).length:Int)),.v (ii (k:Nat)),.Zy,.Zy,.Zy,.Zy,.Zy,.Zy,.Zy,.Zy,.Zy,.Zy,.Zy,.Zy,.Zy,.Zy,.Zy,.Zy,.Zy,.Zy,.Zy,.Zy,.Zy,.Zy,.Zy,.Zy,.Zy,.Zy]/\Γ=[.box 34 (ar p),.box 108 (cC p h c)]/\mx p p.fns l c2=mx p (p.fns.drop k) (l.drop k) c) ?_ ah ?_ ?_ ?_
 ·exact ⟨_,_,Wk.ax al,_,c2,rfl,rfl,rfl⟩
 ·rintro k _ _ ⟨h,c,rfl,rfl,_⟩;exact ⟨rfl,rfl,rfl⟩
 ·rintro k _ _ aq ⟨h,c,rfl,rfl,he⟩;rw [Gm] at aq;obtain ⟨f,hf⟩:∃ f,p.fns[k]?=some f:=⟨p.fns[k],by simp [aq]⟩;obtain ⟨t,ht⟩:∃ t,l[k]?=some t:=⟨l[k]'ah,getElem?_eq_getElem _⟩
  have hr:(p.fns.map au)[k]?=some (au f):=by rw [getElem?_map,hf];rfl
  have Kn:p.fns.drop k=f::p.fns.drop (k+1):=by rw [drop_eq_getElem_cons aq];rw [getElem?_eq_getElem aq] at hf;rw [Option.some.inj hf]
  have dk:l.drop k=t::l.drop (k+1):=by rw [drop_eq_getElem_cons ah];rw [getElem?_eq_getElem ah] at ht;rw [Option.some.inj ht]
  have hp:=nz f (mem_of_getElem? hf);have hz:=b8 t (mem_of_getElem? ht);have RW:=oR k f t hf ht;have hP:=Fs p h c f hp;rw [Kn,dk,mx] at he
  cases hc:(c.code==0) with
  | false =>
   rw [if_neg (by simpa using hc)] at he;unfold cC au at *;refine ab ?_;exact ⟨rfl,rfl,_,_,(Wk.cut (n:=2) (Nat.zero_le _) rfl).trans (Wk.ax al),h,c,rfl,rfl,he⟩
  | true =>
   rw [if_pos (by simpa using hc)] at he
   have UJ:=fun ad cp=>KU p iF ah jQ _ t (Nat.le_refl _) (o0 f c) ad cp (by show f.params.length+_<=_;omega)
   rw [he];generalize mj p t (o0 f c)=c3 at *;unfold cO at UJ;unfold au at hr hP;rw [show cC p h c=[strs p.globals,.sl 2 (p.arrays.map az),.sl 3 (p.fns.map au),.sl 5 (p.nodes.map aw),.v h,.v (ii c.code),.v (ii c.at_)] from rfl] at *;refine ab ?_;refine bZ [1] (hP) ?_;rintro _ _ ⟨rfl,ad,cp,rfl⟩;refine da ?_;refine ab ?_;refine U [] (RW) ?_;refine bZ [1,3] (UJ ad cp) ?_;rintro _ _ ⟨rfl,jc,jd,rfl⟩;refine da ?_;refine ab ?_;exact ⟨rfl,rfl,_,_,(Wk.cut (n:=2) (Nat.zero_le _) rfl).trans (Wk.ax al),_,c3,rfl,rfl,rfl⟩
 ·rintro _ _ ⟨h,c,rfl,rfl,he⟩;rw [Gm,drop_length,MI] at he;rw [he];unfold cC;refine aL ?_;refine ab ?_;refine GW.draw (.q 0 (.q 1 (.q 2 (.q 3 (.q 4 (.q 5 (.q 6 (.q 7 (.q 8 (.q 9 .nil)))))))))) (by kernel_rfl) (by kernel_rfl) ?_;refine aj ?_;exact qb
end Go.Xg
namespace Go.Xg
open Go.RowKit Go.Xw Go.Proofs
open Go.Xp (Nd T Ar aD ay cK)
open Go.Sp (Src)
open Go.Im
attribute [local irreducible] GW GL GO YG GC GA aS aW
theorem KV:∀ (N:Nat) (t:T),aD t<=N->∀ (out:List ae) (ad:Option Addr) (cp:Nat),out.length+aD t<=8388608 ->
  GC Tryz.prog 81 [.v (.slice ad out.length cp),.agg (cT t)] [.vech 9 1 (aZ out) (.slice ad out.length cp)] fun g Δ=>∃ jc jd,g=.v (.slice jc (out++cn t).length jd)/\Δ=[.vech 9 1 (aZ (out++cn t)) (.slice jc (out++cn t).length jd)]:=by
 intro N
 induction N with
 | zero=>intro t h;have:=gP t;omega
 | succ N ih =>
 intro t hN out ad cp fV
 cases t with
 | mk n l =>
 rw [Go.Xp.aD] at hN fV;have ov:=cK l;have dP:(aJ l).length=l.length:=aO l;rw [cn];refine ai Tryz.func81 Tryz.ntmps81 ?_;refine GW.range (aJ l).length (fun k fr Γ=>∃ ad cp o,fr=[.v (.slice ad o.length cp),.Zy,.Zy,.loc 1 0,.Zy,.Zy,.Zy,.Zy,.sl 6 (aJ l),.v (ii ((aJ l).length:Int)),.v (ii (k:Nat)),.Zy,.Zy,.Zy,.Zy,.Zy,.Zy,.Zy,.Zy,.Zy,.Zy,.Zy,.Zy,.Zy,.Zy,.Zy,.Zy,.Zy,.Zy]/\Γ=[.vech 9 1 (aZ o) (.slice ad o.length cp),.box 56 (cT (.mk n l))]/\o=out++b7 (l.take k)) ?_ ah ?_ ?_ ?_
 ·exact ⟨_,_,Wk.ax al,ad,cp,out,rfl,rfl,by simp [b7]⟩
 ·rintro k _ _ ⟨ad,cp,o,rfl,rfl,_⟩;exact ⟨rfl,rfl,rfl⟩
 ·rintro k _ _ aq ⟨ad,cp,o,rfl,rfl,ho⟩;rw [dP] at aq;obtain ⟨u,hu⟩:∃ u,l[k]?=some u:=⟨l[k],by simp [aq]⟩;have hr:=cr hu;have b8:=mQ hu
  have hlen:o.length<=out.length+ay (l.take k):=by rw [ho,length_append];have:=iX (l.take k);omega
  have hi:=ih u ah o ad cp ah
  have py:out++b7 (l.take (k+1))=o++cn u:=by rw [yr hu,ho,append_assoc]
  rw [py];refine ab ?_;refine bZ [0] (hi) ?_;rintro _ _ ⟨jc,jd,rfl,rfl⟩;refine da ?_;refine ab ?_;exact ⟨rfl,rfl,_,_,(Wk.cut (n:=2) (Nat.le_of_ble_eq_true rfl) rfl).trans (Wk.ax al),jc,jd,_,rfl,rfl,rfl⟩
 ·rintro _ _ ⟨ad,cp,o,rfl,rfl,ho⟩;rw [dP,take_length] at ho
  have hlen:o.length<=out.length+ay l:=by rw [ho,length_append];have:=iX l;omega
  have Gn:=kX o;rw [<-append_assoc,<-ho];clear ho ih;refine aL ?_
  cases hv:(n.kind==13) with
  | false =>
   rw [if_neg (by simpa using hv),append_nil];refine ab ?_
   (repeat (first | refine GW.ret ?_ | refine cI ?_ | refine cH ?_ | refine aL ?_ | refine bX ?_))
   exact pM (n:=1) rfl (by first | exact .inr rfl | exact .inl rfl) rfl (Nat.le_of_ble_eq_true rfl) rfl rfl ⟨ad,cp,rfl,rfl⟩
  | true =>
   rw [if_pos (by simpa using hv)];refine ab ?_;refine GL.ql 0 rfl rfl rfl rfl rfl rfl rfl rfl (by first | rfl | assumption) ⟨⟨by omega,by omega⟩,by decide⟩ ?_;intro nH nI;refine cL ?_;refine ab ?_
   (repeat (first | refine GW.ret ?_ | refine cI ?_ | refine cH ?_ | refine aL ?_ | refine bX ?_))
   exact pM (n:=1) rfl (by first | exact .inr rfl | exact .inl rfl) rfl (Nat.le_of_ble_eq_true rfl) rfl rfl ⟨nH,nI,by show GV.v (.slice nH ((aZ o).length+1) nI)=_;simp [aZ],by show [Ob.vech _ 1 (aZ o++[[.v (sv n.s)]]) (.slice nH ((aZ o).length+1) nI)]=_;simp [aZ]⟩
end Go.Xg
namespace Go.Xg
open Go.RowKit Go.Xw Go.Proofs
section
variable {P:Program} {m:Nat} {ops:Array Oper} {Q:dQ} {rest:List Oper} {fr:List GV} {Γ:List Ob}
theorem LW {o:Oper} {a:Act} {next next':Act->World->Prop} {Q Q':Exit->Act->World->Prop} (hn:∀ a w,next a w->next' a w) (hq:∀ e a w,Q e a w->Q' e a w):∀ r,o.upon P a next Q r->o.upon P a next' Q' r:=by
 have hl:LetsOut Q->LetsOut Q':=fun ⟨a,w,h⟩=>⟨a,w,hq _ _ _ h⟩
 intro r h;unfold Oper.upon at h |-;split at h
 ·exact hn _ _ h
 ·exact hn _ _ h
 ·exact hn _ _ h
 ·refine Calls.mono h fun e w' he=>?_
  cases e with
  | returned v=>exact hn _ _ he
  | panicked ch=>exact hq _ _ _ he
  | outgrown=>exact hl he
 ·exact Rows.mono h fun v w' hv=>hn _ _ hv
 ·exact hq _ _ _ h
 ·exact h
theorem yt {Q Q':Exit->Act->World->Prop} (hq:∀ e a w,Q e a w->Q' e a w):∀ (l:List Oper) (a:Act) (w:World),wpList P ops Q l a w->wpList P ops Q' l a w
 | [],a,w,h=>hq _ _ _ h
 | o::l,a,w,h=>by
  have ih:=yt hq l;unfold wpList at h |-;split at h
  ·rename_i hw;rw [if_pos hw]
   rcases h with h | ⟨h1,h2⟩
   ·exact .inl (LW ih hq _ h)
   ·exact .inr ⟨h1,by obtain ⟨a,w,h⟩:=h2;exact ⟨a,w,hq _ _ _ h⟩⟩
  ·rename_i hw;rw [if_neg hw];exact ih _ _ h
theorem GL.mono {Q':dQ} (h:GL P m ops Q rest fr Γ) (hq:∀ e fr Γ,Q e fr Γ->Q' e fr Γ):GL P m ops Q' rest fr Γ:=fun B K β w l hm hI hF =>
 yt (fun e a w ⟨l,ha,K,β,fr,Γ,hI,hF,q⟩=>⟨l,ha,K,β,fr,Γ,hI,hF,hq _ _ _ q⟩) _ _ _ (h B K β w l hm hI hF)
theorem GL.TO {z y:Code} (K:List GV->List Ob->Prop) (h1:GL P m ops (aS (GW P m z (aS (xO m K) Q)) Q) rest fr Γ) (h2:∀ fr Γ,K fr Γ->GW P m y Q fr Γ):GL P m ops (aS (GW P m z (aS (GW P m y Q) Q)) (aS (GW P m y Q) Q)) rest fr Γ:=by
 refine h1.mono fun e fr Γ hq=>?_
 cases e with
 | normal=>exact GW.join K hq h2
 | _=>exact hq
theorem GL.yI {t i n E k:Nat} {rows:List (List GV)} (ht:cj fr t=.vec i n) (gz:iT fr t=true) (br:Γ[i]?=some (.vec E k 0 rows)) (hn:rows.length=n)
  (h:∀ a c,GL P m ops Q rest (bj fr t (.v (.slice a n c))) (oset Γ i (.vech E k rows (.slice a n c)))):GL P m ops Q rest fr Γ:=fun B K β w l hm hI hF=>by
 subst hn;obtain ⟨a,c,hb,be⟩:=hI.yI br
 have hv:nth l t=.slice a rows.length c:=by
  have:=hF.nth t;rw [ht] at this;generalize nth l t=x at this
  cases this with
  | vec i n a' c' h =>
   obtain ⟨h0,m0,e1,_,e3⟩:=h;rw [hb] at e1;cases e1;exact e3 rfl
 have:=hF.eF t (Rel.v (K:=K) (β:=β) (.slice a rows.length c));rw [<-hv,zb (lM hF gz),hv] at this;exact h a c B K β w l hm be this
end
end Go.Xg
namespace Go.Im
open Go.Xp Go.Sp
theorem xP (names:List ae) (u:T):∀ (l:List T) (known:List ae),fF names (l++[u]) known=fF names l known++[kC names u (known++b7 l)]
 | [],known=>by simp [fF,b7]
 | t::l,known=>by rw [cons_append,fF,xP names u l,fF,b7,append_assoc];rfl
theorem Fc (names:List ae) {l:List T} {k:Nat} {u:T} (h:l[k]?=some u) (known:List ae):fF names (l.take (k+1)) known=fF names (l.take k) known++[kC names u (known++b7 (l.take k))]:=by
 rw [take_add_one,h];exact xP names u _ known
def IG (names:List ae) (n:Nd) (known:List ae):Int:=if (n.kind=2\/n.kind=7)/\known.contains n.s=true then tY names n.s+1 else n.n
theorem Mo {names:List ae} {n:Nd} {known:List ae} (h:n.kind=13):mb names n known=⟨n.kind,n.at_,tY names n.s+1,n.s,n.kids⟩:=by unfold mb;rw [if_pos h]
theorem Mp {names:List ae} {n:Nd} {known:List ae} (h:¬ n.kind=13):mb names n known=⟨n.kind,n.at_,IG names n known,n.s,n.kids⟩:=by
 unfold mb IG;rw [if_neg h];split <;> rfl
theorem QN (names:List ae) (s:ae) : -1<=tY names s/\tY names s<=(names.length:Int):=by
 unfold tY cX
 cases h:names.findIdx? (fun x=>x==s) with
 | none=>simp only;omega
 | some i =>
  rw [List.findIdx?_eq_some_iff_getElem] at h;obtain ⟨h,_⟩:=h;simp only;omega
end Go.Im
namespace Go.Xg
open Go.RowKit Go.Xw Go.Proofs
open Go.Xp (Nd T Ar aD ay cK)
open Go.Sp (Src)
open Go.Im
attribute [local irreducible] GW GL GO YG GC GA aS aW
theorem KX (names:List ae) (ef:names.length<=1099511627776):∀ (N:Nat) (t:T),aD t<=N->∀ (known:List ae),known.length+aD t<=8388608 ->
  GF Tryz.prog 58 [strs names,strs known,.agg (cT t)] [] (.tup [.agg (cT (kC names t known)),strs (known++cn t)]) []:=by
 intro N
 induction N with
 | zero=>intro t h;have:=gP t;omega
 | succ N ih =>
 intro t hN known fV
 cases t with
 | mk n l =>
 rw [Go.Xp.aD] at hN fV;have ov:=cK l;have dP:(aJ l).length=l.length:=aO l;have hL:=gL known n.s ah;have hA:=PQ names n.s ef;have Zb:=QN names n.s;rw [kC,cn];obtain ⟨pn,cR⟩:∃ pn,IG names n known=pn:=⟨_,rfl⟩;have rX:=cR;unfold IG at rX;refine ai Tryz.func58 Tryz.ntmps58 ?_;refine GL.TO (fun fr Γ=>fr=[strs names,strs known,.Zy,.Zy,.Zy,.loc 0 0,.loc 1 0,.Zy,.loc 2 0,.Zy,.Zy,.Zy,.Zy,.Zy,.Zy,.Zy,.Zy,.Zy,.Zy,.Zy,.Zy,.Zy,.Zy,.Zy,.Zy,.Zy,.Zy,.Zy,.Zy,.Zy,.Zy,.Zy,.Zy,.Zy,.Zy,.Zy,.Zy,.Zy,.Zy,.Zy,.Zy,.Zy,.Zy,.Zy,.Zy,.Zy,.Zy,.Zy,.Zy,.Zy,.Zy,.Zy,.Zy,.Zy,.Zy,.Zy,.Zy,.Zy,.Zy,.Zy,.Zy,.Zy,.Zy,.Zy,.Zy,.Zy,.Zy,.Zy,.Zy,.Zy,.Zy,.Zy,.Zy,.Zy,.Zy,.Zy,.Zy,.Zy,.Zy,.Zy,.Zy,.Zy,.Zy,.Zy,.Zy]/\Γ=[.box 56 (cT (.mk n l)),.box 56 zT,.box 56 [.v (ii n.kind),.v (ii n.at_),.v (ii pn),.v (sv n.s),ints n.kids,.v (.slice none 0 0)]]) ?_ ?_
 ·generalize tY names n.s=an at *
  cases q2:(n.kind==2) with
  | true =>
   cases h3:known.contains n.s with
   | true =>
    rw [h3] at hL;rw [if_pos ⟨.inl (by simpa using q2),h3⟩] at rX;subst rX;refine ab ?_;refine U [] (hL) ?_;refine U [] (hA) ?_;exact ⟨_,_,Wk.ax al,rfl,rfl⟩
   | false =>
    rw [h3] at hL;rw [if_neg (by rw [h3];simp)] at rX;subst rX;refine ab ?_;refine U [] (hL) ?_;exact ⟨_,_,Wk.ax al,rfl,rfl⟩
  | false =>
   cases q7:(n.kind==7) with
   | true =>
    cases h3:known.contains n.s with
    | true =>
     rw [h3] at hL;rw [if_pos ⟨.inr (by simpa using q7),h3⟩] at rX;subst rX;refine ab ?_;refine U [] (hL) ?_;refine U [] (hA) ?_;exact ⟨_,_,Wk.ax al,rfl,rfl⟩
    | false =>
     rw [h3] at hL;rw [if_neg (by rw [h3];simp)] at rX;subst rX;refine ab ?_;refine U [] (hL) ?_;exact ⟨_,_,Wk.ax al,rfl,rfl⟩
   | false =>
    rw [if_neg (by rintro ⟨h | h,_⟩;(· rw [h] at q2;cases q2);rw [h] at q7;cases q7)] at rX;subst rX;refine ab ?_;exact ⟨_,_,Wk.ax al,rfl,rfl⟩
 ·rintro _ _ ⟨rfl,rfl⟩;refine GW.wk (Wk.D3 (i:=2) (o:=5) 56 6 rfl rfl) ?_;simp only [bj,oset,cons_append,nil_append];refine ab ?_
  refine GW.range (aJ l).length (fun k fr Γ=>∃ rows kn,fr=[strs names,strs kn,.Zy,.Zy,.Zy,.loc 0 0,.loc 1 0,.Zy,.loc 2 0,.Zy,.Zy,.Zy,.Zy,.Zy,.Zy,.Zy,.Zy,.Zy,.Zy,.Zy,.Zy,.Zy,.Zy,.Zy,.Zy,.Zy,.Zy,.Zy,.Zy,.Zy,.Zy,.Zy,.Zy,.Zy,.Zy,.Zy,.Zy,.Zy,.Zy,.Zy,.Zy,.Zy,.sl 6 (aJ l),.v (ii ((aJ l).length:Int)),.v (ii (k:Nat)),.Zy,.Zy,.Zy,.Zy,.Zy,.Zy,.Zy,.Zy,.Zy,.Zy,.Zy,.Zy,.Zy,.Zy,.Zy,.Zy,.Zy,.Zy,.Zy,.Zy,.Zy,.Zy,.Zy,.Zy,.Zy,.Zy,.Zy,.Zy,.Zy,.Zy,.Zy,.Zy,.Zy,.Zy,.Zy,.Zy,.Zy,.Zy,.Zy,.Zy] /\
   Γ=[.box 56 (cT (.mk n l)),.box 56 zT,.box 56 [.v (ii n.kind),.v (ii n.at_),.v (ii pn),.v (sv n.s),ints n.kids,.vec 3 k],.vec 56 6 0 rows] /\
   rows.length=k/\rows=aJ (fF names (l.take k) known)/\kn=known++b7 (l.take k)) ?_ ah ?_ ?_ ?_
  ·exact ⟨_,_,Wk.ax al,[],known,rfl,rfl,rfl,by rw [List.take_zero,fF];rfl,by simp [b7]⟩
  ·rintro k _ _ ⟨_,_,rfl,rfl,_⟩;exact ⟨rfl,rfl,rfl⟩
  ·rintro k _ _ aq ⟨rows,kn,rfl,rfl,rZ,bo,mC⟩;rw [dP] at aq;obtain ⟨u,hu⟩:∃ u,l[k]?=some u:=⟨l[k],by simp [aq]⟩;have hr:=cr hu;have b8:=mQ hu
   have hlen:kn.length<=known.length+ay (l.take k):=by rw [mC,length_append];have:=iX (l.take k);omega
   have hi:=ih u ah kn ah
   have py:known++b7 (l.take (k+1))=kn++cn u:=by rw [yr hu,mC,append_assoc]
   have XI:aJ (fF names (l.take (k+1)) known)=rows++[cT (kC names u kn)]:=by
    rw [Fc names hu,sR,<-bo,<-mC];first | done | simp only [aJ,rm]
   rw [py,XI];clear bo mC;generalize kC names u kn=bu at *;refine ab ?_;refine U [] (hi) ?_;refine dX ?_;refine ab ?_;exact ⟨rfl,rfl,_,_,(Wk.cut (n:=4) (Nat.le_of_ble_eq_true rfl) rfl).trans (Wk.ax al),_,_,rfl,rfl,by rw [length_append,rZ];rfl,rfl,rfl⟩
  ·rintro _ _ ⟨rows,kn,rfl,rfl,rZ,bo,mC⟩;rw [dP,take_length] at bo mC;rw [dP] at rZ |-;rw [<-append_assoc,<-mC]
   have eE:kn.length<=known.length+ay l:=by rw [mC,length_append];have:=iX l;omega
   have YI:kn.length * 16<=140737488355328:=by omega
   refine aL (GW.wk (Wk.vG (i:=2) (o:=5) rfl rfl rfl rfl rZ) ?_);simp only [bj,oset];refine GW.F5 (bQ:=[strs names,strs kn,.Zy,.Zy,.Zy,.loc 0 0,.loc 1 0,.Zy,.loc 2 0,.Zy,.Zy,.Zy,.Zy,.Zy,.Zy,.Zy,.Zy,.Zy,.Zy,.Zy,.Zy,.Zy,.Zy,.Zy,.Zy,.Zy,.Zy,.Zy,.Zy,.Zy,.Zy,.Zy,.Zy,.Zy,.Zy,.Zy,.Zy,.Zy,.Zy,.Zy,.Zy,.Zy,.Zy,.Zy,.Zy,.Zy,.Zy,.Zy,.Zy,.Zy,.Zy,.Zy,.Zy,.Zy,.Zy,.Zy,.Zy,.Zy,.Zy,.Zy,.Zy,.Zy,.Zy,.Zy,.Zy,.Zy,.Zy,.Zy,.Zy,.Zy,.Zy,.Zy,.Zy,.Zy,.Zy,.Zy,.Zy,.Zy,.Zy,.Zy,.Zy,.Zy,.Zy,.Zy,.Zy]) (aH:=[.box 56 (cT (.mk n l)),.box 56 zT,.box 56 [.v (ii n.kind),.v (ii n.at_),.v (ii pn),.v (sv n.s),ints n.kids,.sl 6 rows],.vec 56 6 l.length rows]) al rfl ?_;subst bo;clear mC
   cases hv:(n.kind==13) with
   | false =>
    rw [if_neg (by simpa using hv),append_nil,Mp (by simpa using hv),cR];refine ab ?_;refine jt ?_;exact ⟨rfl,rfl⟩
   | true =>
    rw [if_pos (by simpa using hv),Mo (by simpa using hv)]
    have zE:(kn.map fun s=>[GV.v (sv s)]).length=kn.length:=by simp
    have bE:strs (kn++[n.s])=.sl 1 ((kn.map fun s=>[GV.v (sv s)])++[[.v (sv n.s)]]):=by simp
    rw [bE];have eM:ml (kn.map fun s=>[GV.v (sv s)])=true:=pY kn;generalize tY names n.s=an at *;refine ab ?_;refine U [] (hA) ?_;refine GW.draw (.q 1 (.q 3 (.q 4 (.q 5 (.f 0 (.f 2 (.a 6 (.a 7 (.q 8 .nil))) 6 (.a 2 (.a 7 (.q 8 .nil)))) 6 (.a 0 (.a 2 (.a 7 (.q 8 .nil))))))))) (by kernel_rfl) (by kernel_rfl) ?_;refine aj ?_;refine GO.fork ?_ ?_
    ·refine rA ?_;refine aj ?_;refine GO.fork ?_ ?_
     ·refine OA rfl rfl (GL.zj rfl rfl rfl rfl eM (by refine ⟨?_,?_⟩;(· rw [zE];omega);(· rw [zE];omega)) ?_);rw [zE];refine de ?_;simp only [Nat.zero_add];refine aj ?_;refine dv ?_;refine aj ?_;refine rz ?_;refine aj ?_;refine ab ?_;refine GW.wk (Wk.gD (t:=7) rfl rfl rfl (by simp [chunk])) ?_;refine jt ?_;exact ⟨rfl,rfl⟩
     ·refine dv ?_;refine aj ?_;refine OA rfl rfl (GL.zj rfl rfl rfl rfl eM (by refine ⟨?_,?_⟩;(· rw [zE];omega);(· rw [zE];omega)) ?_);rw [zE];refine de ?_;simp only [Nat.zero_add];refine aj ?_;refine rz ?_;refine aj ?_;refine ab ?_;refine GW.wk (Wk.gD (t:=7) rfl rfl rfl (by simp [chunk])) ?_;refine jt ?_;exact ⟨rfl,rfl⟩
    ·refine dv ?_;refine aj ?_;refine rA ?_;refine aj ?_;refine OA rfl rfl (GL.zj rfl rfl rfl rfl eM (by refine ⟨?_,?_⟩;(· rw [zE];omega);(· rw [zE];omega)) ?_);rw [zE];refine de ?_;simp only [Nat.zero_add];refine aj ?_;refine rz ?_;refine aj ?_;refine ab ?_;refine GW.wk (Wk.gD (t:=7) rfl rfl rfl (by simp [chunk])) ?_;refine jt ?_;exact ⟨rfl,rfl⟩
end Go.Xg
set_option maxHeartbeats 1000000
namespace Go.Xg
open Go.RowKit Go.Xw Go.Proofs
open Go.Xp (Tok Nd T bc one levels Ar)
open Go.Sp
attribute [local irreducible] GW GL GO YG GC GA aS aW
theorem Tp (p:Src) (hp:p.nodes.length<=1000000000000) (hk:∀ n∈p.nodes,n.kids.length<=1000000000000):∀ (f a d:Nat) (e:Int),d<=801->ny p.nodes f a d=some e->GF Tryz.prog 127 [.agg (ar p),.v (ii (a:Nat)),.v (ii (d:Nat))] [] (.v (ii e)) []:=by
 intro f
 induction f using Nat.strongRecOn with
 | _ f ih =>
 intro a d e hd h
 cases f with
 | zero=>simp [ny] at h
 | succ f =>
 rw [ny] at h;refine cP Tryz.func127 Tryz.ntmps127 ?_
 by_cases h1:p.nodes.length<=a
 ·rw [if_pos (.inl h1)] at h;cases h
  have ct:decide (((p.nodes.map aw).length:Int)<=(a:Int))=true:=by simpa using h1
  exact av
 have ct:decide (((p.nodes.map aw).length:Int)<=(a:Int))=false:=by simpa using h1
 by_cases h2:d > 800
 ·rw [if_pos (.inr h2)] at h;cases h
  have pk:decide ((800:Int) < (d:Int))=true:=by simpa using by omega
  exact av
 have pk:decide ((800:Int) < (d:Int))=false:=by simpa using by omega
 rw [if_neg ah] at h
 cases hn:p.nodes[a]? with
 | none=>rw [hn] at h;cases h
 | some n =>
 rw [hn] at h;simp only at h;have hr:=gM hn;have eE:=hk n (mem_of_getElem? hn);refine ab ?_
 refine GW.range (n.kids.map fun i=>[GV.v (ii i)]).length (fun k fr Γ=>∃ nx g,fr=[.Zy,.v (ii (a:Nat)),.v (ii (d:Nat)),.loc 0 0,.Zy,.Zy,.Zy,.v (ii nx),.Zy,.Zy,.Zy,.Zy,.Zy,.Zy,.Zy,.Zy,.Zy,.Zy,.Zy,.Zy,.Zy,.Zy,.Zy,.Zy,.Zy,.Zy,ints n.kids,.v (ii ((n.kids.map fun i=>[GV.v (ii i)]).length:Int)),.v (ii (k:Nat)),.Zy,.Zy,.Zy,.Zy,.Zy,.Zy,.Zy,.Zy,.Zy,.Zy,.Zy,.Zy,.Zy,.Zy,.Zy] /\
   Γ=[.box 34 (ar p)]/\0<=nx/\g<=f/\mr p.nodes g (n.kids.drop k) nx d=some e) ?_ (by simp;omega) ?_ ?_ ?_
 ·exact ⟨_,_,Wk.ax al,_,f,rfl,rfl,by omega,Nat.le_refl _,h⟩
 ·rintro k _ _ ⟨_,_,rfl,rfl,_⟩;exact ⟨rfl,rfl,rfl⟩
 ·rintro k _ _ aq ⟨nx,g,rfl,rfl,py,hg,h⟩
  have aq:k < n.kids.length:=by simpa using aq
  have hx:n.kids[k]?=some n.kids[k]:=by simp [aq]
  rw [drop_eq_getElem_cons aq] at h;generalize n.kids[k]=x at *;have uw:=ng hx
  cases g with
  | zero=>simp [mr] at h
  | succ g =>
  rw [mr] at h
  by_cases hxn:x=nx
  ·subst hxn;rw [if_pos rfl] at h
   have hb:(x != x)=false:=by simp
   cases bE:ny p.nodes g x.toNat (d+1) with
   | none=>rw [bE] at h;cases h
   | some y =>
   rw [bE] at h;simp only at h;have xr:=ih g ah x.toNat (d+1) y ah bE;rw [Int.toNat_of_nonneg py] at xr
   by_cases hy:y < 0
   ·rw [if_pos hy] at h;cases h
    have R9:decide (y < (0:Int))=true:=by simpa using hy
    refine ab ?_;refine U [] (xr) ?_;exact ao
   ·rw [if_neg hy] at h
    have R9:decide (y < (0:Int))=false:=by simpa using hy
    refine ab ?_;refine U [] (xr) ?_;exact ⟨rfl,rfl,_,_,Wk.ax al,_,g,rfl,rfl,by omega,by omega,h⟩
  ·rw [if_neg hxn] at h;cases h
   have hb:(x != nx)=true:=by simpa using hxn
   exact av
 ·rintro _ _ ⟨nx,g,rfl,rfl,py,hg,h⟩;rw [length_map,drop_length] at h
  have ku:nx=e:=by cases g <;> (rw [mr] at h;cases h;rfl)
  subst ku;exact av
end Go.Xg
