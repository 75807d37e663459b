/- Part 6 of proofs that are told in their last texts. -/
import Derived.Test.YthgncfaljaocoaaGreatDoorY5
import Derived.Laws.OwnMore
import Derived.Test.YthgncfaljaocoaaGreatDoorY2
import Derived.Test.YthgncfaljaocoaaGreatDoorY3
open List (any_eq_false append_assoc append_nil cons_append flatten_cons getElem?_append_right getElem?_eq_getElem getElem?_map getElem?_set length_append length_cons length_map length_nil length_replicate length_take length_zipWith map_take mem_cons_of_mem mem_cons_self mem_of_getElem? nil_append set_cons_zero take_add_one take_length toList_toArray)
set_option linter.unusedVariables false
set_option linter.unusedSimpArgs false
set_option maxRecDepth 100000
namespace Go.Xg
open Go.RowKit Go.Xw
section
variable {B:Bs} {K:Fz} {β:Bt} {Γ:List Ob} {w:World}
theorem Inv.swap {i:Nat} {y:Ob} (h:Inv B K β Γ w) (ho:jT K β w i y):Inv B K β (oset Γ i y) w:=by
 refine ⟨h.ext,h.kle,h.ble,h.loc,h.fz,fun j x hj=>?_,fun j hj=>h.out j (by simpa [aV] using hj),h.dis,h.own,h.kn,h.tab⟩;rw [aV,getElem?_set] at hj;split at hj
 ·rename_i gx;split at hj
  ·cases hj;subst gx;exact ho
  ·cases hj
 ·exact h.ob j x hj
theorem Inv.Bo {i E k:Nat} {rows:List (List GV)} {x:Value} (h:Inv B K β Γ w) (hi:Γ[i]?=some (.vech E k rows x)):Inv B K β (oset Γ i (.vec E k 0 rows)) w:=by
 obtain ⟨xs,h1,h2,h3,h4,h5⟩:=h.ob i _ hi;exact h.swap ⟨x,xs,h1,h2,h3,h4,fun b hb=>⟨fun o _=>h5 b hb o,fun o g ho=>by omega⟩,Nat.zero_le _⟩
theorem Inv.zO {i E k:Nat} {rows:List (List GV)} (h:Inv B K β Γ w) (hi:Γ[i]?=some (.vec E k 0 rows)):∃ a c,β i=.gr (.slice a rows.length c) rows.length/\Inv B K β (oset Γ i (.vech E k rows (.slice a rows.length c))) w:=by
 obtain ⟨x,xs,h1,h2,h3,h4,h5,h6⟩:=h.ob i _ hi;obtain ⟨a,c,rfl⟩:=h2.shape;exact ⟨a,c,h1,h.swap ⟨xs,h1,h2,h3,h4,fun b hb o=>(h5 b hb).1 o (by omega)⟩⟩
theorem oJ {i:Nat} {x y:Ob} (h:Γ[i]?=some x):(oset Γ i y)[i]?=some y:=by
 have:=(List.getElem?_eq_some_iff.1 h).1;rw [aV,getElem?_set];simp [this]
theorem nq {i:Nat} {x y:Ob}:oset (oset Γ i x) i y=oset Γ i y:=by rw [aV,aV,aV,List.set_set]
theorem Inv.gr {i E k:Nat} {rows:List (List GV)} {x:Value} (h:Inv B K β Γ w) (hi:Γ[i]?=some (.vech E k rows x)):β i=.gr x rows.length:=by
 obtain ⟨xs,h1,_⟩:=h.ob i _ hi;exact h1
theorem Inv.rT {i E k:Nat} {rows:List (List GV)} {x:Value} (h:Inv B K β Γ w) (hi:Γ[i]?=some (.vech E k rows x)):∃ K',cw K K'/\Rel K' β x (.sl k rows)/\Inv B K' β (oset Γ i (.vec E k rows.length rows)) w:=by
 obtain ⟨xs,h1,h2,h3,h4,h5⟩:=h.ob i _ hi;obtain ⟨K',hK,wR,bc⟩:=(h.Bo hi).hY (oJ hi);rw [<-aV,nq] at bc;refine ⟨K',hK,?_,bc⟩
 rcases h2.2 with ⟨e5,e6⟩ | ⟨g,cap,cu,e5,_,_,p7,_⟩
 ·have:rows=[]:=List.eq_nil_of_length_eq_zero e6;subst this;subst e5;exact .sl0 _ _ _
 ·subst e5;refine .sl g 0 cap k rows (fun j r hr=>⟨(h4 r (mem_of_getElem? hr)).1,fun q g' lj=>?_⟩) p7;rw [Nat.zero_add];exact wR _ g h1 rfl _ g' (s9 h4 hr lj)
end
section
variable {P:Program} {m:Nat} {Q:dR} {fr:List GV} {Γ:List Ob} {ops:Array Oper} {rest:List Oper} {d:Option Tmp} {op:Op} {ty:TypeId} {pos:String} {af:Array Edge}
theorem Wk.lY (E k:Nat):Wk m fr Γ fr (Γ++[.vech E k [] (.slice none 0 0)]):=fun B K β w l hm hI hF=>by
 have bV:β Γ.length=.no:=hI.out _ (Nat.le_refl _);have bc:=hI.Bz (w':=w) (E:=E) (k:=k) (x:=.slice none 0 0) (xs:=[]) (rows:=[]) (Ext.refl w) (gQ.nil w 0 E k) (fun b hb=>by cases hb) aU.nil (fun r hr=>by cases hr);have hle:de β (eT β Γ.length (.gr (.slice none 0 0) ([]:List (List GV)).length)):=gJ (by rw [bV];trivial);refine ⟨K,_,?_,hF.mono (cw.refl K) hle⟩;have hb:eT β Γ.length (.gr (.slice none 0 0) ([]:List (List GV)).length) Γ.length=.gr (.slice none 0 0) ([]:List (List GV)).length:=bh;have:=bc.swap (i:=Γ.length) (y:=.vech E k [] (.slice none 0 0)) ⟨[],hb,gQ.nil w 0 E k,aU.nil,(fun r hr=>by cases hr),(fun b hb=>by cases hb)⟩;rw [aV] at this;simpa using this
theorem Wk.pN {t i E k:Nat} {rows:List (List GV)} {x:Value} (ht:cq fr t=.v x) (gW:ju fr t=true) (br:Γ[i]?=some (.vech E k rows x)):Wk m fr Γ (bg fr t (.sl k rows)) (oset Γ i (.vec E k rows.length rows)):=fun B K β w l hm hI hF=>by
 obtain ⟨K',hK,hr,bc⟩:=hI.rT br;refine ⟨K',β,bc,?_⟩;have hv:nth l t=x:=Rel.eg (by rw [<-ht];exact hF.nth t);have:=(hF.mono hK (de.refl β)).eM t hr;rw [<-hv,Ai (mc hF gW)] at this;exact this
theorem aU.bg {K:Fz} {β:Bt} {x:Value} {g:GV} (hr:Rel K β x g):∀ {vs:List Value} {cs:List GV} {o:Nat},aU K β vs cs->cs[o]?=some (.v x)->aU K β vs (bg cs o g):=by
 intro vs
 induction vs with
 | nil=>intro cs o h ho;have:cs=[]:=List.eq_nil_of_length_eq_zero h.1.symm;subst this;simp at ho
 | cons v vs ih =>
  intro cs o h ho
  cases cs with
  | nil=>simp at ho
  | cons c cs =>
   obtain ⟨a1,a2⟩:=h.ou
   cases o with
   | zero=>cases ho;have hv:=Rel.eg a1;subst hv;exact .cons hr a2
   | succ o=>exact .cons a1 (ih a2 (by simpa using ho))
theorem Wk.yD {i o j E k:Nat} {T:TypeId} {cs:List GV} {rows:List (List GV)} {x:Value} (hi:Γ[i]?=some (.box T cs)) (ho:cs[o]?=some (.v x)) (gx:Nat.beq i j=false) (hj:Γ[j]?=some (.vech E k rows x)):Wk m fr Γ fr (oset (oset Γ j (.vec E k rows.length rows)) i (.box T (bg cs o (.sl k rows)))):=fun B K β w l hm hI hF=>by
 have bN:i≠j:=by intro e;subst e;simp at gx
 obtain ⟨K',hK,hr,bc⟩:=hI.rT hj;obtain ⟨b,vs,h1,h2,h3,h4⟩:=bc.ob i (.box T cs) (by rw [aV,getElem?_set,if_neg (fun e=>bN e.symm)];exact hi);exact ⟨K',β,bc.swap ⟨b,vs,h1,h2,aU.bg hr h3 ho,h4⟩,hF.mono hK (de.refl β)⟩
def dz:List (List GV)->Nat->Nat->GV->List (List GV)
 | [],_,_,_=>[]
 | r::rs,0,o,g=>bg r o g::rs
 | r::rs,n+1,o,g=>r::dz rs n o g
theorem zL:∀ (l:List GV) (o:Nat) (g:GV),(bg l o g).length=l.length
 | [],_,_=>rfl
 | _::l,0,_=>rfl
 | _::l,o+1,g=>by simp [bg,zL l o g]
theorem zK:∀ (a b:List GV) (o:Nat) (g:GV),bg (a++b) (a.length+o) g=a++bg b o g
 | [],b,o,g=>by simp
 | x::a,b,o,g=>by
  rw [cons_append,length_cons,show a.length+1+o=(a.length+o)+1 by omega,bg,zK a b o g];rfl
theorem CM:∀ (a b:List GV) (o:Nat) (g:GV),o < a.length->bg (a++b) o g=bg a o g++b
 | [],b,o,g,h=>by simp at h
 | x::a,b,0,g,h=>rfl
 | x::a,b,o+1,g,h=>by simp [bg,CM a b o g (by simpa using h)]
theorem NS {l:List GV} {o:Nat} {g x:GV} (h:x∈bg l o g):x∈l\/x=g:=by
 induction l generalizing o with
 | nil=>cases h
 | cons y l ih =>
  cases o with
  | zero =>
   simp only [bg,List.mem_cons] at h;rcases h with h | h
   ·exact .inr h
   ·exact .inl (mem_cons_of_mem _ h)
  | succ o =>
   simp only [bg,List.mem_cons] at h;rcases h with h | h
   ·exact .inl (by rw [h];exact mem_cons_self)
   ·exact (ih h).imp (mem_cons_of_mem _) id
theorem fB:∀ (rows:List (List GV)) (i o:Nat) (g:GV),(dz rows i o g).length=rows.length
 | [],_,_,_=>rfl
 | r::rs,0,_,_=>rfl
 | r::rs,n+1,o,g=>by simp [dz,fB rs n o g]
theorem uc {k:Nat} {o:Nat} {g:GV} (ho:o < k):∀ {rows:List (List GV)} {i:Nat},gi k rows->i < rows.length->(dz rows i o g).flatten=bg rows.flatten (i * k+o) g
 | [],_,_,h=>by simp at h
 | r::rs,0,hk,_=>by
  have:=(hk r (mem_cons_self)).1;rw [dz,flatten_cons,flatten_cons,Nat.zero_mul,Nat.zero_add,CM _ _ _ _ (by omega)]
 | r::rs,n+1,hk,h=>by
  have:=(hk r (mem_cons_self)).1;rw [dz,flatten_cons,flatten_cons,uc ho (fun r hr=>hk r (mem_cons_of_mem _ hr)) (by simpa using h),show (n+1) * k+o=r.length+(n * k+o) by rw [Nat.succ_mul];omega,zK]
theorem yC {k:Nat} {o:Nat} {g:GV} (hg:g.pc=true):∀ {rows:List (List GV)} {i:Nat},gi k rows->gi k (dz rows i o g)
 | [],_,_=>fun r hr=>by cases hr
 | r::rs,0,hk=>fun r' hr=>by
  simp only [dz,List.mem_cons] at hr
  rcases hr with rfl | hr
  ·exact ⟨by rw [zL];exact (hk r mem_cons_self).1,fun x hx=>by
    rcases NS hx with h | h
    ·exact (hk r mem_cons_self).2 x h
    ·rw [h];exact hg⟩
  ·exact hk r' (mem_cons_of_mem _ hr)
 | r::rs,n+1,hk=>fun r' hr=>by
  simp only [dz,List.mem_cons] at hr
  rcases hr with rfl | hr
  ·exact hk _ mem_cons_self
  ·exact yC hg (fun r hr=>hk r (mem_cons_of_mem _ hr)) r' hr
theorem Fv {a b:List (List GV)} {r:List GV} {o:Nat} {g:GV}:dz (a++r::b) a.length o g=a++bg r o g::b:=by
 induction a with
 | nil=>rfl
 | cons x a ih=>rw [cons_append,length_cons,dz,ih];rfl
theorem Wk.JT {i idx o j E k T k':Nat} {rows ks:List (List GV)} {x h:Value} {r:List GV} (hi:Γ[i]?=some (.vech T k rows h)) (hr:rows[idx]?=some r) (ho:r[o]?=some (.v x)) (gx:Nat.beq i j=false) (hj:Γ[j]?=some (.vech E k' ks x)) :
  Wk m fr Γ fr (oset (oset Γ j (.vec E k' ks.length ks)) i (.vech T k (dz rows idx o (.sl k' ks)) h)):=fun B K β w l hm hI hF=>by
 have bN:i≠j:=by intro e;subst e;simp at gx
 obtain ⟨K',hK,eO,bc⟩:=hI.rT hj;obtain ⟨xs,h1,h2,h3,h4,h5⟩:=bc.ob i (.vech T k rows h) (by rw [aV,getElem?_set,if_neg (fun e=>bN e.symm)];exact hi);have ao:=(List.getElem?_eq_some_iff.1 hr).1
 have AU:o < k:=by rw [<-(h4 r (mem_of_getElem? hr)).1];exact (List.getElem?_eq_some_iff.1 ho).1
 exact ⟨K',β,bc.swap ⟨xs,by rw [fB];exact h1,by rw [fB];exact h2,by rw [uc AU h4 ao];exact aU.bg eO h3 (s9 h4 hr ho),yC rfl h4,h5⟩,hF.mono hK (de.refl β)⟩
theorem YG.bs {x y:Operand} {t e:TypeId} {k:Nat} [hT:mF P t e k] (i:Nat) {v:Value} {kk:IntKind} {j E:Nat} {rows:List (List GV)} (hx:aM fr x=.v v) (hy:aM fr y=.v (.int kk j)) (br:Γ[i]?=some (.vech E k rows v)) (hj:j < rows.length):YG P (.indexAddr t x y) fr Γ (.vp i rows.length k j 0):=fun B K β w l hI hF=>by
 have hv:=hF.gU hx;obtain ⟨xs,h1,h2,h3,h4,h5⟩:=hI.ob i _ br
 rcases h2.2 with ⟨h8,h9⟩ | ⟨g,cap,cur,h8,_,hg,_⟩
 ·omega
 ·subst h8;exact ⟨_,R.qp hv (hF.gU hy) hj,.vp i _ k j 0 _ ⟨_,_,h1,Nat.le_refl _,fun _=>⟨g,rfl,by simp⟩⟩⟩
theorem YG.sA {x:Operand} {s:TypeId} {f off k:Nat} {agg:Bool} [hT:dn P s f off k agg] {i n k' idx o E:Nat} {rows:List (List GV)} {v:Value} (hx:aM fr x=.vp i n k' idx o) (br:Γ[i]?=some (.vech E k' rows v)) (hn:rows.length=n):YG P (.fieldAddr s x f) fr Γ (.vp i n k' idx (o+off)):=fun B K β w l hI hF=>by
 have h:=hF.ev x;rw [hx] at h;generalize hv:ev l x=u at h
 cases h with
 | vp _ _ _ _ _ _ h =>
  obtain ⟨h0,m,h1,h2,h3⟩:=h;rw [hI.gr br] at h1;cases h1;obtain ⟨b,hb,rfl⟩:=h3 hn;exact ⟨_,R.NL hv,.vp i n k' idx _ _ ⟨_,_,hI.gr br,h2,fun _=>⟨b,hb,by rw [Nat.add_assoc]⟩⟩⟩
theorem YG.xM {x:Operand} {t:TypeId} [hT:Ty P t false 1] {i n k idx o E:Nat} {rows:List (List GV)} {v:Value} {r:List GV} {g:GV} (hx:aM fr x=.vp i n k idx o) (br:Γ[i]?=some (.vech E k rows v)) (hn:rows.length=n) (hr:rows[idx]?=some r) (hg:r[o]?=some g):YG P (.load t x) fr Γ g:=fun B K β w l hI hF=>by
 have h:=hF.ev x;rw [hx] at h;generalize hv:ev l x=u at h
 cases h with
 | vp _ _ _ _ _ _ h =>
  obtain ⟨h0,m,h1,h2,h3⟩:=h;obtain ⟨xs,h4,h5,h6,h7,_⟩:=hI.ob i _ br;rw [h1] at h4;cases h4;obtain ⟨b,hb,rfl⟩:=h3 hn;obtain ⟨u,hu,eO⟩:=h6.at (s9 h7 hr hg);obtain ⟨b2,c,he,_,_,hc⟩:=h5.cells.2 (by intro h0;rw [h0] at hu;simp at hu);subst he;cases hb;exact ⟨u,R.ld hv (by rw [<-eY];exact hc _ _ hu),eO⟩
theorem Aj {v:Value}:∀ (l:List Value) (n o:Nat),o < n->(eM l o v).take n=eM (l.take n) o v
 | [],n,o,h=>by simp [eM]
 | x::l,0,o,h=>by omega
 | x::l,n+1,0,h=>by simp [eM]
 | x::l,n+1,o+1,h=>by simp [eM,Aj l n o (by omega)]
theorem wJ {v:Value}:∀ (l:List Value) (o:Nat),(eM l o v).length=l.length
 | [],o=>rfl
 | x::l,0=>rfl
 | x::l,o+1=>by simp [eM,wJ l o]
theorem GL.Zu {x y:Operand} {t:TypeId} [hT:Ty P t false 1] {i n k idx o E:Nat} {rows:List (List GV)} {v:Value} {r:List GV} {g:GV} (hx:aM fr x=.vp i n k idx o) (br:Γ[i]?=some (.vech E k rows v)) (hn:rows.length=n) (hr:rows[idx]?=some r) (AU:Nat.blt o r.length=true)
  (hy:ma (aM fr y)=some [g]) (h1:g.one=true) (hp:g.pc=true) (h:GL P m ops Q rest (bf fr d (.v undef)) (oset Γ i (.vech E k (dz rows idx o g) v))):GL P m ops Q (⟨d,.store t x y,ty,pos,af,none⟩::rest) fr Γ:=fun B K β w l hm hI hF=>by
 have EK:=hF.ev x;rw [hx] at EK;generalize hv:ev l x=u at EK
 cases EK with
 | vp _ _ _ _ _ _ hh =>
  obtain ⟨h0,mm,e1,e2,e3⟩:=hh;obtain ⟨xs,h4,h5,h6,h7,h8⟩:=hI.ob i _ br;rw [e1] at h4;cases h4;obtain ⟨b,hb,rfl⟩:=e3 hn;have ao:=(List.getElem?_eq_some_iff.1 hr).1
  have Xd:o < k:=by rw [<-(h7 r (mem_of_getElem? hr)).1];simpa using AU
  obtain ⟨us,jr,kx⟩:=(hF.ev y).cells hy
  obtain ⟨u1,rfl⟩:∃ u1,us=[u1]:=by
   have:=kx.1
   match us,this with
   | [u1],_=>exact ⟨u1,rfl⟩
  have V4:Rel K β u1 g:=kx.2 0 u1 g rfl rfl
  have hq:idx * k+o < rows.length * k:=by
   have:(idx+1) * k<=rows.length * k:=Nat.mul_le_mul_right k ao;rw [Nat.succ_mul] at this;omega
  rcases h5.2 with ⟨e5,e6⟩ | ⟨g0,cap,cur,e5,I1,hg,p7,y7,b6,jR⟩
  ·omega
  ·subst e5;simp only [Value.ownBlock,Option.some.injEq] at hb;subst hb;have WQ:rows.length * k<=cap * k:=Nat.mul_le_mul_right k p7
   refine WL.st (t:=t) (k:=1) hv rfl hg (by rw [jr];rfl) (by omega) (by rw [jr];have:=(wC (V4.one h1)).2;simpa [Xw.lr] using this) fun w' hs=>?_
   rw [jr] at hs
   have fG:uA cur (idx * k+o) ([u1]:List Value)=(eM cur.toList (idx * k+o) u1).toArray:=by
    simp only [uA];rw [<-x6]
   simp only [toList_toArray,fG] at hs
   have yv:rows.flatten.length=rows.length * k:=by rw [<-h6.1];exact h5.1
   have how:gQ w' 0 E k (.slice (some ⟨g0,0,none⟩) rows.length cap) rows.length (eM xs (idx * k+o) u1) :=
    ⟨by rw [wJ];exact h5.1,.inr ⟨g0,cap,_,rfl,I1,hs.blk,p7,y7,by simp [wJ,b6],by rw [toList_toArray,Aj _ _ _ hq,jR]⟩⟩
   have eO:aU K β (eM xs (idx * k+o) u1) (bg rows.flatten (idx * k+o) g):=by
    have gen:∀ (vs:List Value) (cs:List GV) (q:Nat),aU K β vs cs->aU K β (eM vs q u1) (bg cs q g):=by
     intro vs
     induction vs with
     | nil=>intro cs q h;have:cs=[]:=List.eq_nil_of_length_eq_zero h.1.symm;subst this;exact h
     | cons v vs ih =>
      intro cs q h
      cases cs with
      | nil=>have:=h.1;simp at this
      | cons c cs =>
       obtain ⟨a1,a2⟩:=h.ou
       cases q with
       | zero=>exact .cons V4 a2
       | succ q=>exact .cons a1 (ih cs q a2)
    exact gen _ _ _ h6
   have ej:(β i).blk=some g0:=by rw [e1];rfl
   have bc:Inv B K β (oset Γ i (.vech E k (dz rows idx o g) (.slice (some ⟨g0,0,none⟩) rows.length cap))) w':=by
    refine ⟨hI.ext.step hs.ext (fun j hj=>?_),hI.kle,hI.ble,hI.loc,hI.fz.ext hs.ext (fun b' o' g' lj he=>?_),fun j y hj=>?_,fun j hj=>hI.out j (by simpa [aV] using hj),hI.dis,hI.own,hI.kn,hI.tab.step hs.ext (fun j hj=>⟨i,by subst hj;exact ej⟩) (cw.refl K) (fun i b2 h=>.inl ⟨i,h⟩)⟩
    ·subst hj;exact (hI.own i _ ej).symm
    ·subst he;rw [h8 _ rfl] at lj;cases lj
    ·rw [aV,getElem?_set] at hj;split at hj
     ·rename_i gx;split at hj
      ·cases hj;subst gx
       exact ⟨_,by rw [fB];exact e1,by rw [fB];exact how,by rw [uc Xd h7 ao];exact eO,yC hp h7,h8⟩
      ·cases hj
     ·rename_i gx;refine (hI.ob j y hj).ext hs.ext (fun b' aY he=>?_) (cw.refl K) (de.refl β) rfl (fun _ _ _ h=>h);subst he;exact gx (hI.dis i j _ ej aY)
   exact h B K β w' _ hm bc (hF.put d (.v _))
theorem GL.qM {x:Operand} {ts:Tmp} {t e k gS:Nat} {z:List Value} [hT:n7 P t e k gS] [hZ:o7 P t e k z] {d1 dt:Tmp} {MV:TypeId} {Fp:String} {Kl:Array Edge} (i:Nat) {n:Nat} {rows:List (List GV)} {gs:List GV} {v:Value}
  (hx:ma (aM fr x)=some gs) (hk:Nat.beq gs.length k=true) (h1:lZ gs=true) (hp:rv gs=true) (hs:cq fr ts=.v v) (Tb:Nat.beq ts d1=false) (hd:ju fr d1=true) (br:Γ[i]?=some (.vech e k rows v)) (hn:rows.length=n)
  (hb:(n+1<=9223372036854775807/\(n+1) * gS<=140737488355328)/\k<=16777216)
  (h:∀ a c,GL P m ops Q rest (bf (bf fr (some d1) .any) (some dt) (.v (.slice a (n+1) c))) (oset Γ i (.vech e k (rows++[gs]) (.slice a (n+1) c)))) :
  GL P m ops Q (⟨some d1,.buildSlice t 1 #[(0,x)],MV,Fp,Kl,none⟩::⟨some dt,.call ⟨.builtin .append,#[.tmp ts,.tmp d1],#[t,t]⟩,ty,pos,af,none⟩::rest) fr Γ:=fun B K β w l hm hI hF=>by
 subst hn;obtain ⟨us,jr,kx⟩:=(hF.ev x).cells hx;obtain ⟨xs,o1,o2,o3,o4,o5⟩:=hI.ob i _ br;have qc:nth l ts=v:=Rel.eg (by rw [<-hs];exact hF.nth ts);have Lv:=mc hF hd
 have W8:ts≠d1:=by intro e;subst e;simp at Tb
 have ln:gs.length=k:=by simpa using hk
 refine WL.push (base:=0) (v:=v) (vs:=us) (val:=ev l x) (xs:=xs) (n:=rows.length) rfl (fun u=>by rw [show ev (put l (some d1) u) (.tmp ts)=nth (eM l d1 u) ts from rfl,nM W8];exact qc) (fun u=>r6 Lv u) jr (by rw [kx.1,ln]) (kx.lr h1) o2 hb.1.1 hb.1.2 hb.2 (Nat.zero_le _) ?_;intro u v' w' how gC tQ vb;obtain ⟨K',hK,qd,bc⟩:=(hI.Bo br).grow (fz:=0) (oJ br) o1 ⟨o2,o3⟩ (news:=[gs]) (ns:=us) how gC tQ (by simpa using kx) (fun r hr=>by simp at hr;subst hr;exact ⟨ln,mo hp⟩) (by simp) (fun b aY o v ho hv=>by omega);rw [<-aV,nq] at bc;obtain ⟨a,c,px,oO⟩:=bc.zO (oJ br);rw [nq] at oO;obtain ⟨a',c',rfl⟩:=how.shape;rw [bh] at px;simp only [length_append,length_cons,length_nil] at px oO qd;cases px;exact h _ _ B K' _ w' _ hm oO (((hF.mono hK qd).put (some d1) (.any u)).put (some dt) (.v _))
theorem GL.nW {s x:Operand} {t e k gS:Nat} [hT:n7 P t e k gS] (i:Nat) {n:Nat} {dt:Tmp} {v:Value} {rows news:List (List GV)} (hx:aM fr x=.sl k news) (hs:aM fr s=.v v) (br:Γ[i]?=some (.vech e k rows v)) (hn:rows.length=n) (h1:mP news=true) (bN:news.isEmpty=false)
  (hb:n+news.length<=9223372036854775807/\(n+news.length) * gS<=140737488355328)
  (h:∀ a c,GL P m ops Q rest (bf fr (some dt) (.v (.slice a (n+news.length) c))) (oset Γ i (.vech e k (rows++news) (.slice a (n+news.length) c)))) :
  GL P m ops Q (⟨some dt,.call ⟨.builtin .append,#[s,x],#[t,t]⟩,ty,pos,af,none⟩::rest) fr Γ:=fun B K β w l hm hI hF=>by
 subst hn
 have bN:news≠[]:=by intro h0;rw [h0] at bN;cases bN
 obtain ⟨xs,o1,o2,o3,o4,o5⟩:=hI.ob i _ br;have qc:ev l s=v:=hF.gU hs;have sN:=hF.ev x;rw [hx] at sN;generalize rl:ev l x=vx at sN
 cases sN with
 | sl0 a c k=>exact absurd rfl bN
 | sl b o c _ _ hr _ =>
  have jO:gi k news:=fun r LI=>by
   obtain ⟨j,hj⟩:=List.mem_iff_getElem?.1 LI;refine ⟨(hr j r hj).1,fun g hg=>?_⟩;obtain ⟨q,hq⟩:=List.mem_iff_getElem?.1 hg;exact (hI.fz _ _ _ ((hr j r hj).2 q g hq)).1
  have yv:∀ (rows:List (List GV)) (o:Nat),(∀ (j:Nat) r,rows[j]?=some r->r.length=k/\∀ (q:Nat) g,r[q]?=some g->K b (o+j * k+q)=some g)->∀ (q:Nat) g,rows.flatten[q]?=some g->K b (o+q)=some g:=by
   intro rows
   induction rows with
   | nil=>intro o _ q g hg;simp at hg
   | cons r rows ih =>
    intro o h q g hg;rw [flatten_cons] at hg;have hl:=(h 0 r rfl).1
    by_cases hq:q < r.length
    ·rw [List.getElem?_append_left hq] at hg;have:=(h 0 r rfl).2 q g hg;simpa using this
    ·rw [getElem?_append_right (by omega),hl] at hg
     have:=ih (o+k) (fun j r' hj=>by
      have:=h (j+1) r' (by simpa using hj);refine ⟨this.1,fun q g hg=>?_⟩;have:=this.2 q g hg
      rw [show o+(j+1) * k+q=o+k+j * k+q by rw [Nat.succ_mul];omega] at this;exact this) (q - k) g hg
     rw [show o+k+(q - k)=o+q by omega] at this;exact this
  obtain ⟨us,jr,kx⟩:=vP (K:=K) (β:=β) (H:=w.heap) (b:=b) news.flatten o (fun j g hj=>by
   obtain ⟨hp,u,hu,eO⟩:=hI.fz _ _ _ (yv news o (fun j r hj=>hr j r hj) j g hj)
   exact ⟨u,hu,eO.pc hp⟩)
  have CW:us.length=news.length * k:=by
   rw [jr.1,List.length_flatten]
   have:∀ (rows:List (List GV)),gi k rows->(rows.map List.length).sum=rows.length * k:=by
    intro rows
    induction rows with
    | nil=>intro _;simp
    | cons r rows ih =>
     intro hk;rw [List.map_cons,List.sum_cons,ih (fun r hr=>hk r (mem_cons_of_mem _ hr)),(hk r (mem_cons_self)).1,length_cons,Nat.succ_mul];omega
   exact this news jO
  refine WL.app (base:=0) (v:=v) (n:=rows.length) (m:=news.length) (xs:=xs) (news:=us) qc o2 rl CW (fun j u hj=>by rw [eY];exact kx j u hj) (jr.lr (Bd h1)) hb.1 hb.2 (Nat.zero_le _) ?_;intro v' w' how gC tQ vb;obtain ⟨K',hK,qd,bc⟩:=(hI.Bo br).grow (fz:=0) (oJ br) o1 ⟨o2,o3⟩ (news:=news) (ns:=us) how gC tQ jr jO bN (fun b aY o v ho hv=>by omega);rw [<-aV,nq] at bc;obtain ⟨a,c,px,oO⟩:=bc.zO (oJ br);rw [nq] at oO;obtain ⟨a',c',rfl⟩:=how.shape;rw [bh] at px;simp only [length_append] at px oO qd;cases px;exact h _ _ B K' _ w' _ hm oO ((hF.mono hK qd).put (some dt) (.v _))
end
end Go.Xg
namespace Go.Xg
open Go.RowKit Go.Xw
theorem Dk:∀ (us vs:List Value) (o n:Nat),o+us.length<=n->(gI vs o us).take n=gI (vs.take n) o us
 | [],vs,o,n,_=>rfl
 | u::us,vs,o,n,h=>by
  rw [length_cons] at h;rw [gI,gI,Dk us _ _ _ (by omega),Aj _ _ _ (by omega)]
theorem xm (a:List GV):∀ (gs b:List GV) (o:Nat),nJ (a++b) (a.length+o) gs=a++nJ b o gs
 | [],b,o=>rfl
 | g::gs,b,o=>by rw [nJ,nJ,zK,Nat.add_assoc,xm a gs]
theorem AF:∀ (gs a b:List GV),a.length=gs.length->nJ (a++b) 0 gs=gs++b
 | [],[],b,_=>rfl
 | [],x::a,b,h=>by simp at h
 | g::gs,[],b,h=>by simp at h
 | g::gs,x::a,b,h=>by
  rw [nJ,cons_append,bg];have:=xm [g] gs (a++b) 0;simp only [length_cons,length_nil,cons_append,nil_append,Nat.zero_add,Nat.add_zero] at this |-;rw [this,AF gs a b (by simpa using h)]
theorem Ft {k:Nat} {gs:List GV} (hg:gs.length=k):∀ {rows:List (List GV)} {i:Nat},gi k rows->i < rows.length->nJ rows.flatten (i * k) gs=(rows.set i gs).flatten
 | [],_,_,h=>by simp at h
 | r::rs,0,hk,_=>by
  rw [flatten_cons,set_cons_zero,flatten_cons,Nat.zero_mul,AF gs r _ (by rw [hg];exact (hk r mem_cons_self).1)]
 | r::rs,n+1,hk,h=>by
  have hr:=(hk r mem_cons_self).1;rw [flatten_cons,List.set_cons_succ,flatten_cons,<-Ft hg (fun r hr=>hk r (mem_cons_of_mem _ hr)) (by simpa using h),show (n+1) * k=r.length+n * k by rw [Nat.succ_mul];omega,xm]
theorem JP {k:Nat} {gs:List GV} (hg:gs.length=k) (hp:rv gs=true) {rows:List (List GV)} {i:Nat} (h:gi k rows):gi k (rows.set i gs):=fun r hr=>by
 rcases List.mem_or_eq_of_mem_set hr with hr | rfl
 ·exact h r hr
 ·exact ⟨hg,mo hp⟩
section
variable {P:Program} {m:Nat} {ops:Array Oper} {Q:dR} {rest:List Oper} {fr:List GV} {Γ:List Ob} {d:Option Tmp} {ty:TypeId} {pos:String} {af:Array Edge}
theorem GL.XF {x y:Operand} {t:TypeId} {agg:Bool} {k:Nat} [hT:Ty P t agg k] {i n idx E:Nat} {rows:List (List GV)} {v:Value} {gs:List GV} (hx:aM fr x=.vp i n k idx 0) (br:Γ[i]?=some (.vech E k rows v)) (hn:rows.length=n) (ao:idx < rows.length)
  (hy:ma (aM fr y)=some gs) (hk:Nat.beq gs.length k=true) (h1:lZ gs=true) (hp:rv gs=true) (h:GL P m ops Q rest (bf fr d (.v undef)) (oset Γ i (.vech E k (rows.set idx gs) v))):GL P m ops Q (⟨d,.store t x y,ty,pos,af,none⟩::rest) fr Γ:=fun B K β w l hm hI hF=>by
 have hk:gs.length=k:=by simpa using hk
 have EK:=hF.ev x;rw [hx] at EK;generalize hv:ev l x=u at EK
 cases EK with
 | vp _ _ _ _ _ _ hh =>
  obtain ⟨h0,mm,e1,e2,e3⟩:=hh;obtain ⟨xs,h4,h5,h6,h7,h8⟩:=hI.ob i _ br;rw [e1] at h4;cases h4;obtain ⟨b,hb,rfl⟩:=e3 hn;obtain ⟨us,jr,kx⟩:=(hF.ev y).cells hy
  have CW:us.length=k:=by rw [kx.1,hk]
  have hq:idx * k+k<=rows.length * k:=by
   have:(idx+1) * k<=rows.length * k:=Nat.mul_le_mul_right k ao;rw [Nat.succ_mul] at this;omega
  rcases h5.2 with ⟨e5,e6⟩ | ⟨g0,cap,cur,e5,I1,hg,p7,y7,b6,jR⟩
  ·omega
  ·subst e5;simp only [Value.ownBlock,Option.some.injEq] at hb;subst hb;have WQ:rows.length * k<=cap * k:=Nat.mul_le_mul_right k p7
   refine WL.st (t:=t) (k:=k) hv rfl hg (by rw [jr];simpa using CW) (by rw [Nat.add_zero];omega) (by rw [jr];simpa using kx.lr h1) fun w' hs=>?_
   rw [jr,toList_toArray,Nat.add_zero] at hs;obtain ⟨cur⟩:=cur;rw [ud] at hs;simp only [List.size_toArray,toList_toArray] at b6 jR
   have how:gQ w' 0 E k (.slice (some ⟨g0,0,none⟩) rows.length cap) rows.length (gI xs (idx * k) us) :=
    ⟨by rw [Ad];exact h5.1,.inr ⟨g0,cap,_,rfl,I1,hs.blk,p7,y7,by simp [Ad,b6],by rw [toList_toArray,Dk _ _ _ _ (by omega),jR]⟩⟩
   have eO:aU K β (gI xs (idx * k) us) (nJ rows.flatten (idx * k) gs):=kx.gI _ h6;rw [Ft hk h7 ao] at eO
   have ej:(β i).blk=some g0:=by rw [e1];rfl
   have bc:Inv B K β (oset Γ i (.vech E k (rows.set idx gs) (.slice (some ⟨g0,0,none⟩) rows.length cap))) w':=by
    refine ⟨hI.ext.step hs.ext (fun j hj=>?_),hI.kle,hI.ble,hI.loc,hI.fz.ext hs.ext (fun b' o' g' lj he=>?_),fun j y hj=>?_,fun j hj=>hI.out j (by simpa [aV] using hj),hI.dis,hI.own,hI.kn,hI.tab.step hs.ext (fun j hj=>⟨i,by subst hj;exact ej⟩) (cw.refl K) (fun i b2 h=>.inl ⟨i,h⟩)⟩
    ·subst hj;exact (hI.own i _ ej).symm
    ·subst he;rw [h8 _ rfl] at lj;cases lj
    ·rw [aV,getElem?_set] at hj;split at hj
     ·rename_i gx;split at hj
      ·cases hj;subst gx
       exact ⟨_,by rw [List.length_set];exact e1,by rw [List.length_set];exact how,eO,JP hk hp h7,h8⟩
      ·cases hj
     ·rename_i gx;refine (hI.ob j y hj).ext hs.ext (fun b' aY he=>?_) (cw.refl K) (de.refl β) rfl (fun _ _ _ h=>h);subst he;exact gx (hI.dis i j _ ej aY)
   exact h B K β w' _ hm bc (hF.put d (.v _))
theorem RU (n:Nat) (z:List Value):(List.replicate n (ji z)).flatten=zs n z:=by
 induction n with
 | zero=>rfl
 | succ n ih=>rw [List.replicate_succ,flatten_cons,ih,zs]
theorem GL.zj {x:Operand} {t e k gS:Nat} {z:List Value} [hT:n7 P t e k gS] [hZ:o7 P t e k z] {dt:Tmp} {n:Nat} (hx:aM fr x=.v (ii (n:Nat))) (hb:n<=1099511627776/\gS * n<=281474976710656)
  (h:∀ a c,GL P m ops Q rest (bf fr (some dt) (.v (.slice a n c))) (Γ++[.vech e k (List.replicate n (ji z)) (.slice a n c)])) :
  GL P m ops Q (⟨some dt,.makeSlice t x x,ty,pos,af,none⟩::rest) fr Γ:=fun B K β w l hm hI hF=>by
 obtain ⟨hu,⟨i,z0,hi,hz,LP,b6,xr⟩,hk⟩:=hT.parts;have rl:ev l x=ii (n:Nat):=hF.gU hx;obtain ⟨w',hr,h2,h3⟩:=run_make_full (P:=P) (w:=w) 0 t e i z0 k hu hi hz b6 .i64 .i64 n (by rw [xr];exact hb.2) (by simp only [maxLen];omega) (Nat.zero_le _)
 have Y5:z0.cells.toList=z:=by
  have h4:=hZ.zero;rw [hi] at h4;simp only [Option.bind_some,hz,Option.some.injEq] at h4;have hl:=hZ.zl
  by_cases h1:k=1
  ·rw [if_pos h1] at h4;rw [h4,hZ.one h1];subst h1
   match z,hl with
   | [a],_=>rfl
  ·rw [if_neg h1] at h4;rw [h4];rfl
 have SI:(madeCells z0.cells (n * k)).toList=(List.range (n * k)).map fun j=>z.getD (j % k) undef:=by
  unfold madeCells;rw [Array.toList_map,Array.toList_range];apply List.map_congr_left;intro j _
  have ao:j % k < z0.cells.size:=by rw [LP];exact Nat.mod_lt _ hk
  rw [LP,getElem!_pos z0.cells (j % k) ao,<-Y5,List.getD_eq_getElem?_getD,Array.getElem?_toList,Array.getElem?_eq_getElem ao];rfl
 rw [SI] at h2;have eO:=F6 (K:=K) (β:=β) (n:=n) hZ.zl hZ.pos;rw [<-RU] at eO
 have fc:gi k (List.replicate n (ji z)):=fun r hr=>by
  have:=List.eq_of_mem_replicate hr;subst this;refine ⟨by rw [<-hZ.zl];simp [ji],fun g hg=>?_⟩;unfold ji at hg;obtain ⟨v,_,rfl⟩:=List.mem_map.1 hg;rfl
 have gC:Ext iG w w':=⟨h3.os,h3.tape,h3.output,h3.size,fun j hj _=>h3.block j hj (by simp)⟩;have bc:=hI.Bz (x:=.slice (some ⟨w.heap.size,0,none⟩) n n) (rows:=List.replicate n (ji z)) gC (by rw [length_replicate];exact h2) (fun b hb=>by cases hb;exact Nat.le_refl _) eO fc
 have WZ:(Γ++[Ob.vec e k 0 (List.replicate n (ji z))])[Γ.length]?=some (Ob.vec e k 0 (List.replicate n (ji z))):=by simp
 obtain ⟨a,c,px,oO⟩:=bc.zO WZ;rw [bh] at px
 injection px with yZ eG
 injection yZ with xp hb4 hb5
 subst xp hb5
 have LH:oset (Γ++[.vec e k 0 (List.replicate n (ji z))]) Γ.length (.vech e k (List.replicate n (ji z)) (.slice (some ⟨w.heap.size,0,none⟩) (List.replicate n (ji z)).length n))=Γ++[.vech e k (List.replicate n (ji z)) (.slice (some ⟨w.heap.size,0,none⟩) (List.replicate n (ji z)).length n)]:=by
  rw [aV];simp
 rw [LH,length_replicate] at oO;refine WL.val (v:=.slice (some ⟨w.heap.size,0,none⟩) n n) (w':=w') (by simp [execOp,rl,hr]) ?_;exact h _ _ B K _ w' _ hm oO ((hF.mono (cw.refl K) (gJ (by rw [hI.out _ (Nat.le_refl _)];trivial))).put (some dt) (.v _))
end
end Go.Xg
set_option maxHeartbeats 2000000
namespace Go.Xg
open Go.RowKit Go.Xw Go.Proofs
open Go.Xp (Nd Ar)
open Go.Sp (Src)
open Go.Im (wS cj aW nA rM eU c7 nz kB ny)
open Go.Im (kM kL kK)
attribute [local irreducible] GW GL GO YG GC GA aQ aR
theorem OZ (l:List Int) (hl:l.length<=1048576):GF Tryz.prog 82 [ints l] [] (ints l) []:=by
 have hm:(l.map (fun i=>[GV.v (ii i)])).length=l.length:=by simp
 refine ah Tryz.func82 Tryz.ntmps82 ?_;refine GL.zj rfl ⟨by omega,by omega⟩ ?_;intro a c;refine cS ?_;refine ab ?_;refine GW.loop (fun k:Nat=>l.length - k) (fun k fr Γ=>∃ R Z,fr=[ints l,.any,.any,.v (.slice a (l.map (fun i=>[GV.v (ii i)])).length c),.v (ii (k:Nat)),.any,.any,.any,.any,.any,.any,.any,.any,.any,.any,.any,.any,.any,.any,.any,.any,.any]/\Γ=[.vech 3 1 R (.slice a (l.map (fun i=>[GV.v (ii i)])).length c)]/\k<=l.length/\R=(l.take k).map (fun i=>[GV.v (ii i)])++List.replicate (l.length - k) Z) 0 ?_ ?_
 ·exact ⟨_,_,Wk.av aj,_,_,rfl,rfl,Nat.zero_le _,by rw [hm];rfl⟩
 rintro k _ _ ⟨R,Z,rfl,rfl,hk,hR⟩
 have nc:R.length=l.length:=by rw [hR];exact kL hk
 have eF:R.length=(l.map (fun i=>[GV.v (ii i)])).length:=by rw [hm];exact nc
 by_cases ao:k < l.length
 ·have hx:l[k]?=some l[k]:=by simp [ao]
  have hr:(l.map (fun i=>[GV.v (ii i)]))[k]?=some ([GV.v (ii l[k])]):=by rw [getElem?_map,hx];rfl
  have dq:decide ((k:Int) < ((l.map (fun i=>[GV.v (ii i)])).length:Int))=true:=by rw [hm];simpa using ao
  have cv:=kM (f:=(fun i=>[GV.v (ii i)])) (Z:=Z) hx;rw [<-hR] at cv;clear hR;generalize l[k]=x at *;refine ab ?_;refine kg ?_;refine ab ?_;exact ⟨k+1,⟨_,_,Wk.av aj,_,Z,rfl,rfl,ao,cv⟩,by show l.length - (k+1) < l.length - k;omega⟩
 ·have dq:decide ((k:Int) < ((l.map (fun i=>[GV.v (ii i)])).length:Int))=false:=by rw [hm];simpa using ao
  have lp:k=l.length:=by omega
  subst lp;rw [kK] at hR;subst hR;refine ab ?_;refine aS ?_;refine GW.wk (by apply Wk.pN (t:=3) (i:=0) <;> rfl) ?_;simp only [oset,bg];exact ar
theorem zq (l:List ae) (hl:l.length<=1048576):GF Tryz.prog 32 [strs l] [] (strs l) []:=by
 have hm:(l.map (fun s=>[GV.v (sv s)])).length=l.length:=by simp
 refine ah Tryz.func32 Tryz.ntmps32 ?_;refine GL.zj rfl ⟨by omega,by omega⟩ ?_;intro a c;refine cS ?_;refine ab ?_;refine GW.loop (fun k:Nat=>l.length - k) (fun k fr Γ=>∃ R Z,fr=[strs l,.any,.any,.v (.slice a (l.map (fun s=>[GV.v (sv s)])).length c),.v (ii (k:Nat)),.any,.any,.any,.any,.any,.any,.any,.any,.any,.any,.any,.any,.any,.any,.any,.any,.any]/\Γ=[.vech 9 1 R (.slice a (l.map (fun s=>[GV.v (sv s)])).length c)]/\k<=l.length/\R=(l.take k).map (fun s=>[GV.v (sv s)])++List.replicate (l.length - k) Z) 0 ?_ ?_
 ·exact ⟨_,_,Wk.av aj,_,_,rfl,rfl,Nat.zero_le _,by rw [hm];rfl⟩
 rintro k _ _ ⟨R,Z,rfl,rfl,hk,hR⟩
 have nc:R.length=l.length:=by rw [hR];exact kL hk
 have eF:R.length=(l.map (fun s=>[GV.v (sv s)])).length:=by rw [hm];exact nc
 by_cases ao:k < l.length
 ·have hx:l[k]?=some l[k]:=by simp [ao]
  have hr:(l.map (fun s=>[GV.v (sv s)]))[k]?=some ([GV.v (sv l[k])]):=by rw [getElem?_map,hx];rfl
  have dq:decide ((k:Int) < ((l.map (fun s=>[GV.v (sv s)])).length:Int))=true:=by rw [hm];simpa using ao
  have cv:=kM (f:=(fun s=>[GV.v (sv s)])) (Z:=Z) hx;rw [<-hR] at cv;clear hR;generalize l[k]=x at *;refine ab ?_;refine kg ?_;refine ab ?_;exact ⟨k+1,⟨_,_,Wk.av aj,_,Z,rfl,rfl,ao,cv⟩,by show l.length - (k+1) < l.length - k;omega⟩
 ·have dq:decide ((k:Int) < ((l.map (fun s=>[GV.v (sv s)])).length:Int))=false:=by rw [hm];simpa using ao
  have lp:k=l.length:=by omega
  subst lp;rw [kK] at hR;subst hR;refine ab ?_;refine aS ?_;refine GW.wk (by apply Wk.pN (t:=3) (i:=0) <;> rfl) ?_;simp only [oset,bg];exact ar
theorem Dp (x:Ar):GF Tryz.prog 61 [.agg (ay x)] [] (.agg (ay x)) []:=by
 refine ah Tryz.func61 Tryz.ntmps61 ?_;exact dm
theorem J0 (l:List Ar) (hl:l.length<=1048576):GF Tryz.prog 33 [.sl 2 (l.map ay)] [] (.sl 2 (l.map ay)) []:=by
 have hm:(l.map ay).length=l.length:=by simp
 refine ah Tryz.func33 Tryz.ntmps33 ?_;refine GL.zj rfl ⟨by omega,by omega⟩ ?_;intro a c;refine cS ?_;refine ab ?_;refine GW.loop (fun k:Nat=>l.length - k) (fun k fr Γ=>∃ R Z,fr=[.sl 2 (l.map ay),.any,.any,.v (.slice a (l.map ay).length c),.v (ii (k:Nat)),.any,.any,.any,.any,.any,.any,.any,.any,.any,.any,.any,.any,.any,.any,.any,.any,.any,.any]/\Γ=[.vech 86 2 R (.slice a (l.map ay).length c)]/\k<=l.length/\R=(l.take k).map ay++List.replicate (l.length - k) Z) 0 ?_ ?_
 ·exact ⟨_,_,Wk.av aj,_,_,rfl,rfl,Nat.zero_le _,by rw [hm];rfl⟩
 rintro k _ _ ⟨R,Z,rfl,rfl,hk,hR⟩
 have nc:R.length=l.length:=by rw [hR];exact kL hk
 have eF:R.length=(l.map ay).length:=by rw [hm];exact nc
 by_cases ao:k < l.length
 ·have hx:l[k]?=some l[k]:=by simp [ao]
  have hr:(l.map ay)[k]?=some (ay l[k]):=by rw [getElem?_map,hx];rfl
  have dq:decide ((k:Int) < ((l.map ay).length:Int))=true:=by rw [hm];simpa using ao
  have cv:=kM (f:=ay) (Z:=Z) hx;rw [<-hR] at cv;have hc:=Dp l[k];clear hR;generalize l[k]=x at *;refine ab ?_;refine U [] (hc) ?_;refine kg ?_;refine ab ?_;exact ⟨k+1,⟨_,_,Wk.av aj,_,Z,rfl,rfl,ao,cv⟩,by show l.length - (k+1) < l.length - k;omega⟩
 ·have dq:decide ((k:Int) < ((l.map ay).length:Int))=false:=by rw [hm];simpa using ao
  have lp:k=l.length:=by omega
  subst lp;rw [kK] at hR;subst hR;refine ab ?_;refine aS ?_;refine GW.wk (by apply Wk.pN (t:=3) (i:=0) <;> rfl) ?_;simp only [oset,bg];exact ar
theorem Uc (x:Go.Sp.Fn) (hp:x.params.length<=1048576):GF Tryz.prog 62 [.agg (aq x)] [] (.agg (aq x)) []:=by
 have h0:=zq x.params hp;refine ah Tryz.func62 Tryz.ntmps62 ?_;refine U [] (h0) ?_;exact dm
theorem RO (l:List Go.Sp.Fn) (hl:l.length<=1048576) (he:∀ x∈l,x.params.length<=1048576):GF Tryz.prog 34 [.sl 3 (l.map aq)] [] (.sl 3 (l.map aq)) []:=by
 have hm:(l.map aq).length=l.length:=by simp
 refine ah Tryz.func34 Tryz.ntmps34 ?_;refine GL.zj rfl ⟨by omega,by omega⟩ ?_;intro a c;refine cS ?_;refine ab ?_;refine GW.loop (fun k:Nat=>l.length - k) (fun k fr Γ=>∃ R Z,fr=[.sl 3 (l.map aq),.any,.any,.v (.slice a (l.map aq).length c),.v (ii (k:Nat)),.any,.any,.any,.any,.any,.any,.any,.any,.any,.any,.any,.any,.any,.any,.any,.any,.any,.any]/\Γ=[.vech 85 3 R (.slice a (l.map aq).length c)]/\k<=l.length/\R=(l.take k).map aq++List.replicate (l.length - k) Z) 0 ?_ ?_
 ·exact ⟨_,_,Wk.av aj,_,_,rfl,rfl,Nat.zero_le _,by rw [hm];rfl⟩
 rintro k _ _ ⟨R,Z,rfl,rfl,hk,hR⟩
 have nc:R.length=l.length:=by rw [hR];exact kL hk
 have eF:R.length=(l.map aq).length:=by rw [hm];exact nc
 by_cases ao:k < l.length
 ·have hx:l[k]?=some l[k]:=by simp [ao]
  have hr:(l.map aq)[k]?=some (aq l[k]):=by rw [getElem?_map,hx];rfl
  have dq:decide ((k:Int) < ((l.map aq).length:Int))=true:=by rw [hm];simpa using ao
  have cv:=kM (f:=aq) (Z:=Z) hx;rw [<-hR] at cv;have hex:=he _ (mem_of_getElem? hx);have hc:=Uc l[k] hex;clear hR;generalize l[k]=x at *;refine ab ?_;refine U [] (hc) ?_;refine kg ?_;refine ab ?_;exact ⟨k+1,⟨_,_,Wk.av aj,_,Z,rfl,rfl,ao,cv⟩,by show l.length - (k+1) < l.length - k;omega⟩
 ·have dq:decide ((k:Int) < ((l.map aq).length:Int))=false:=by rw [hm];simpa using ao
  have lp:k=l.length:=by omega
  subst lp;rw [kK] at hR;subst hR;refine ab ?_;refine aS ?_;refine GW.wk (by apply Wk.pN (t:=3) (i:=0) <;> rfl) ?_;simp only [oset,bg];exact ar
theorem O1 (x:Nd) (hp:x.kids.length<=1048576):GF Tryz.prog 63 [.agg (au x)] [] (.agg (au x)) []:=by
 have h0:=OZ x.kids hp;refine ah Tryz.func63 Tryz.ntmps63 ?_;refine U [] (h0) ?_;exact dm
theorem MQ (l:List Nd) (hl:l.length<=1048576) (he:∀ x∈l,x.kids.length<=1048576):GF Tryz.prog 35 [.sl 5 (l.map au)] [] (.sl 5 (l.map au)) []:=by
 have hm:(l.map au).length=l.length:=by simp
 refine ah Tryz.func35 Tryz.ntmps35 ?_;refine GL.zj rfl ⟨by omega,by omega⟩ ?_;intro a c;refine cS ?_;refine ab ?_;refine GW.loop (fun k:Nat=>l.length - k) (fun k fr Γ=>∃ R Z,fr=[.sl 5 (l.map au),.any,.any,.v (.slice a (l.map au).length c),.v (ii (k:Nat)),.any,.any,.any,.any,.any,.any,.any,.any,.any,.any,.any,.any,.any,.any,.any,.any,.any,.any]/\Γ=[.vech 53 5 R (.slice a (l.map au).length c)]/\k<=l.length/\R=(l.take k).map au++List.replicate (l.length - k) Z) 0 ?_ ?_
 ·exact ⟨_,_,Wk.av aj,_,_,rfl,rfl,Nat.zero_le _,by rw [hm];rfl⟩
 rintro k _ _ ⟨R,Z,rfl,rfl,hk,hR⟩
 have nc:R.length=l.length:=by rw [hR];exact kL hk
 have eF:R.length=(l.map au).length:=by rw [hm];exact nc
 by_cases ao:k < l.length
 ·have hx:l[k]?=some l[k]:=by simp [ao]
  have hr:(l.map au)[k]?=some (au l[k]):=by rw [getElem?_map,hx];rfl
  have dq:decide ((k:Int) < ((l.map au).length:Int))=true:=by rw [hm];simpa using ao
  have cv:=kM (f:=au) (Z:=Z) hx;rw [<-hR] at cv;have hex:=he _ (mem_of_getElem? hx);have hc:=O1 l[k] hex;clear hR;generalize l[k]=x at *;refine ab ?_;refine U [] (hc) ?_;refine kg ?_;refine ab ?_;exact ⟨k+1,⟨_,_,Wk.av aj,_,Z,rfl,rfl,ao,cv⟩,by show l.length - (k+1) < l.length - k;omega⟩
 ·have dq:decide ((k:Int) < ((l.map au).length:Int))=false:=by rw [hm];simpa using ao
  have lp:k=l.length:=by omega
  subst lp;rw [kK] at hR;subst hR;refine ab ?_;refine aS ?_;refine GW.wk (by apply Wk.pN (t:=3) (i:=0) <;> rfl) ?_;simp only [oset,bg];exact ar
theorem pR (x:Src) (hg:x.globals.length<=1048576) (ha:x.arrays.length<=1048576) (hf:x.fns.length<=1048576) (oh:∀ f∈x.fns,f.params.length<=1048576) (hn:x.nodes.length<=1048576) (ni:∀ n∈x.nodes,n.kids.length<=1048576):GF Tryz.prog 10 [.agg (ak x)] [] (.agg (ak x)) []:=by
 have h0:=zq x.globals hg;have h1:=J0 x.arrays ha;have h2:=RO x.fns hf oh;have h3:=MQ x.nodes hn ni;refine ah Tryz.func10 Tryz.ntmps10 ?_;refine U [] (h0) ?_;refine U [] (h1) ?_;refine U [] (h2) ?_;refine U [] (h3) ?_;exact dm
end Go.Xg
namespace Go.Xg
open Go.RowKit Go.Xw
def Ob.mN:Ob->Bool
 | .vech _ _ _ _=>true
 | _=>false
def pL (β:Bt) (aI:List Nat):Bt:=fun j=>match aI[j]? with
 | some i=>β i
 | none=>.no
section
variable {B:Bs} {K:Fz} {β:Bt} {Γ:List Ob} {w:World}
theorem aU.rv {K:Fz} {β bO:Bt} {vs:List Value} {gs:List GV} (h:aU K β vs gs) (hp:∀ g∈gs,g.pc=true):aU K bO vs gs:=⟨h.1,fun i v g h1 h2=>(h.2 i v g h1 h2).pc (hp g (mem_of_getElem? h2))⟩
theorem gi.flat {k:Nat} {rows:List (List GV)} (h:gi k rows):∀ g∈rows.flatten,g.pc=true:=fun g hg=>by
 obtain ⟨r,h1,h2⟩:=List.mem_flatten.1 hg;exact (h r h1).2 g h2
theorem Inv.pick (h:Inv B K β Γ w) (hm:B.m=0) {aI:List Nat} {Δ:List Ob} (hl:Δ.length=aI.length) (hn:aI.Nodup)
  (hx:∀ (j:Nat) x,Δ[j]?=some x->x.mN=true/\∀ i,aI[j]?=some i->Γ[i]?=some x):Inv B K (pL β aI) Δ w:=by
 have hb:∀ i b,(pL β aI i).blk=some b->∃ q,aI[i]?=some q/\(β q).blk=some b:=fun i b hi=>by
  unfold pL at hi
  cases hs:aI[i]? with
  | none=>rw [hs] at hi;cases hi
  | some q=>rw [hs] at hi;exact ⟨q,rfl,hi⟩
 refine ⟨h.ext,h.kle,fun i=>by rw [h.loc i (by omega)];trivial,h.loc,h.fz,fun i x hi=>?_,fun i hi=>?_,fun i j b hi hj=>?_,fun i b hi=>?_,h.kn,h.tab.step (S:=iG) (Ext.refl w) (fun _ h=>h.elim) (cw.refl K) (fun i b2 h2=>?_)⟩
 ·obtain ⟨h1,h2⟩:=hx i x hi;have ao:=(List.getElem?_eq_some_iff.1 hi).1;have hs:aI[i]?=some (aI[i]'(by omega)):=getElem?_eq_getElem _
  cases x with
  | vech E k rows v =>
   obtain ⟨xs,e1,e2,e3,e4,e5⟩:=h.ob _ _ (h2 _ hs);refine ⟨xs,?_,e2,e3.rv e4.flat,e4,e5⟩;show pL β aI i=_;unfold pL;rw [hs];exact e1
  | _=>cases h1
 ·unfold pL;rw [List.getElem?_eq_none (by omega)]
 ·obtain ⟨q,h1,h2⟩:=hb i b hi;obtain ⟨r,h3,h4⟩:=hb j b hj;have:=h.dis q r b h2 h4;subst this;obtain ⟨a1,a2⟩:=List.getElem?_eq_some_iff.1 h1;obtain ⟨b1,b2⟩:=List.getElem?_eq_some_iff.1 h3;exact (List.getElem_inj hn).1 (a2.trans b2.symm)
 ·obtain ⟨q,h1,h2⟩:=hb i b hi;exact h.own q b h2
 ·obtain ⟨q,h3,h4⟩:=hb i b2 h2;exact .inl ⟨q,h4⟩
theorem Inv.view {i E k:Nat} {rows:List (List GV)} {x:Value} (h:Inv B K β Γ w) (hi:Γ[i]?=some (.vech E k rows x)):∃ K1,cw K K1/\jj K1 w/\eW K1 (fun _=>.no) w/\Rel K1 (fun _=>.no) x (.sl k rows):=by
 obtain ⟨K',hK,hr,bc⟩:=h.rT hi;exact ⟨K',hK,bc.fz,⟨bc.tab.le,bc.tab.pow,bc.tab.spc,fun i b h=>by cases h⟩,hr.pc rfl⟩
theorem Inv.XG (h:Inv B K β Γ w):eW K (fun _=>.no) w:=⟨h.tab.le,h.tab.pow,h.tab.spc,fun i b h=>by cases h⟩
theorem Inv.new (h:jj K w) (ht:eW K (fun _=>.no) w):Inv ⟨w,iG,K,fun _=>.no,0⟩ K (fun _=>.no) [] w :=
 ⟨Ext.refl w,cw.refl _,de.refl _,fun _ _=>rfl,h,fun i x h=>by simp at h,fun _ _=>rfl,fun i j b h=>(by cases h),fun i b h=>(by cases h),fun b o g h=>.inl h,ht⟩
theorem Inv.JT {i idx o j E k T k':Nat} {rows ks:List (List GV)} {x h:Value} {r:List GV} (hI:Inv B K β Γ w) (hi:Γ[i]?=some (.vech T k rows h)) (hr:rows[idx]?=some r) (ho:r[o]?=some (.v x)) (bN:i≠j) (hj:Γ[j]?=some (.vech E k' ks x)) :
  ∃ K',cw K K'/\Inv B K' β (oset (oset Γ j (.vec E k' ks.length ks)) i (.vech T k (dz rows idx o (.sl k' ks)) h)) w:=by
 obtain ⟨K',hK,eO,bc⟩:=hI.rT hj;obtain ⟨xs,h1,h2,h3,h4,h5⟩:=bc.ob i (.vech T k rows h) (by rw [aV,getElem?_set,if_neg (fun e=>bN e.symm)];exact hi);have ao:=(List.getElem?_eq_some_iff.1 hr).1
 have AU:o < k:=by rw [<-(h4 r (mem_of_getElem? hr)).1];exact (List.getElem?_eq_some_iff.1 ho).1
 exact ⟨K',hK,bc.swap ⟨xs,by rw [fB];exact h1,by rw [fB];exact h2,by rw [uc AU h4 ao];exact aU.bg eO h3 (s9 h4 hr ho),yC rfl h4,h5⟩⟩
theorem r8 {rows:List (List GV)} {i o:Nat} {g:GV} {r:List GV} (hr:rows[i]?=some r):∀ q,(dz rows i o g)[q]?=if q=i then some (bg r o g) else rows[q]?:=by
 induction rows generalizing i with
 | nil=>simp at hr
 | cons x rs ih =>
  intro q
  cases i with
  | zero =>
   cases hr
   cases q with
   | zero=>simp [dz]
   | succ q=>simp [dz]
  | succ i =>
   cases q with
   | zero=>simp [dz]
   | succ q =>
    have:=ih (by simpa using hr) q;simp only [dz,List.getElem?_cons_succ,this]
    by_cases h:q=i
    ·simp [h]
    ·simp [h]
theorem Inv.Fy {T k o E k' jf N:Nat} {h:Value} {raw fin:Nat->List GV} {ks:Nat->List (List GV)} {hd:Nat->Value} {jp:Nat->Nat} (hI:Inv B K β Γ w) {DG:List (List GV)} (YA:Γ[jf]?=some (.vech T k DG h)) (h0:DG.length=N/\∀ i,i < N->DG[i]?=some (raw i))
  (Xf:∀ i,i < N->(raw i)[o]?=some (.v (hd i))/\bg (raw i) o (.sl k' (ks i))=fin i) (jV:∀ i,i < N->Γ[jp i]?=some (.vech E k' (ks i) (hd i))) (bN:∀ i,i < N->jp i≠jf) (Eu:∀ i i',i < N->i' < N->jp i=jp i'->i=i') :
  ∃ K' aD rows,cw K K'/\Inv B K' β aD w/\aD[jf]?=some (.vech T k rows h)/\rows.length=N/\(∀ i,i < N->rows[i]?=some (fin i))/\∀ q,q≠jf->(∀ i,i < N->q≠jp i)->aD[q]?=Γ[q]?:=by
 have key:∀ n,n<=N->∃ K' aD rows,cw K K'/\Inv B K' β aD w/\aD[jf]?=some (.vech T k rows h)/\rows.length=N/\(∀ i,i < n->rows[i]?=some (fin i))/\(∀ i,n<=i->i < N->rows[i]?=some (raw i))/\(∀ i,n<=i->i < N->aD[jp i]?=some (.vech E k' (ks i) (hd i)))/\∀ q,q≠jf->(∀ i,i < N->q≠jp i)->aD[q]?=Γ[q]?:=by
  intro n
  induction n with
  | zero=>intro _;exact ⟨K,Γ,DG,cw.refl K,hI,YA,h0.1,fun i h=>by omega,fun i _ h=>h0.2 i h,fun i _ h=>jV i h,fun _ _ _=>rfl⟩
  | succ n ih =>
   intro hn;obtain ⟨K',aD,rows,a1,a2,a3,a4,a5,a6,a7,a8⟩:=ih (by omega);have hr:=a6 n (Nat.le_refl _) (by omega);obtain ⟨c1,c2⟩:=Xf n (by omega);obtain ⟨K2,b1,b2⟩:=a2.JT a3 hr c1 (fun e=>bN n (by omega) e.symm) (a7 n (Nat.le_refl _) (by omega));have ao:=(List.getElem?_eq_some_iff.1 a3).1;refine ⟨K2,_,dz rows n o (.sl k' (ks n)),a1.trans b1,b2,?_,by rw [fB];exact a4,fun i hi=>?_,fun i hi LA=>?_,fun i hi LA=>?_,fun q hq VY=>?_⟩
   ·rw [aV,aV,getElem?_set];simp [ao]
   ·rw [r8 hr,c2]
    by_cases e:i=n
    ·rw [if_pos e,e]
    ·rw [if_neg e];exact a5 i (by omega)
   ·rw [r8 hr,if_neg (by omega)];exact a6 i (by omega) LA
   ·rw [aV,aV,getElem?_set,if_neg (fun e=>bN i LA e.symm),getElem?_set,if_neg (fun e=>by have:=Eu n i (by omega) LA e;omega)];exact a7 i (by omega) LA
   ·rw [aV,aV,getElem?_set,if_neg (fun e=>hq e.symm),getElem?_set,if_neg (fun e=>VY n (by omega) e.symm)];exact a8 q hq VY
 obtain ⟨K',aD,rows,a1,a2,a3,a4,a5,_,_,a8⟩:=key N (Nat.le_refl _);exact ⟨K',aD,rows,a1,a2,a3,a4,a5,a8⟩
end
section
variable {P:Program} {fn:Func} {R:GV->List Ob->Prop} {fr:List GV} {Γ:List Ob} {e:Exit}
theorem UG {t:Tmp} {x:Value} (aI:List Nat) (Δ:List Ob) (hr:fn.results=#[.tmp t]) (he:e=.normal\/e=.ret) (hg:cq fr t=.v x) (hl:Δ.length=aI.length) (hn:aI.Nodup)
  (hx:∀ (j:Nat) x,Δ[j]?=some x->x.mN=true/\∀ i,aI[j]?=some i->Γ[i]?=some x) (h:R (.v x) Δ):sC P fn 0 R e fr Γ :=
 ⟨he,fun B K β w l hB hI hF=>⟨nth l t,K,pL β aI,.v x,Δ,by rw [results_tmp hr,jG],hI.pick hB hl hn hx,by have:=hF.nth t;rw [hg] at this;rw [Rel.eg this];exact .v _,h⟩⟩
theorem UH {t:Tmp} {T:TypeId} {k:Nat} [hT:Ty P T true k] {i:Nat} {E:TypeId} {cs:List GV} (aI:List Nat) (Δ:List Ob) (hr:fn.results=#[.cell t T]) (he:e=.normal\/e=.ret) (hg:cq fr t=.loc i 0) (br:Γ[i]?=some (.box E cs)) (hk:cs.length=k) (hp:rv cs=true)
  (hl:Δ.length=aI.length) (hn:aI.Nodup) (hx:∀ (j:Nat) x,Δ[j]?=some x->x.mN=true/\∀ i,aI[j]?=some i->Γ[i]?=some x) (h:R (.agg cs) Δ):sC P fn 0 R e fr Γ :=
 ⟨he,fun B K β w l hB hI hF=>by
  obtain ⟨b,vs,h1,h2,h3,h4⟩:=hI.ob i _ br
  have S6:nth l t=.pointer (some ⟨b,0,none⟩):=by
   have:=hF.nth t;rw [hg] at this;generalize nth l t=v at this
   cases this with
   | loc _ _ b' aY=>rw [h1] at aY;cases aY;rfl
  have kW:l.toArray.getD t undef=.pointer (some ⟨b,0,none⟩):=by rw [jG,S6]
  have Ew:=nr (P:=P) (w:=w) (t:=T) (b:=b) (o:=0) (vs:=vs) (k:=k) (by rw [h3.1,hk]) (fun j v hj=>by
   rw [Nat.zero_add,cell_of_row w b j _ E (0,0) h2];simpa using hj)
  have zQ:l[t]?.getD undef=.pointer (some ⟨b,0,none⟩):=by simpa using kW
  have h5:aU K (pL β aI) vs cs:=h3.rv (mo hp)
  exact ⟨.agg vs.toArray,K,pL β aI,.agg cs,Δ,by simp [results,hr,zQ,asAddr,Ew],hI.pick hB hl hn hx,.agg vs cs h5.1 h5.2,h⟩⟩
end
section
variable {P:Program} {fn:Func} {R:GV->List Ob->Prop} {fr:List GV} {Γ:List Ob} {e:Exit}
theorem CH {Γ:List Ob} {n:Nat} (h:∀ x∈Γ.drop n,x.mN=true):(Γ.drop n).length=((List.range (Γ.length - n)).map (·+n)).length/\((List.range (Γ.length - n)).map (·+n)).Nodup /\
  ∀ (j:Nat) x,(Γ.drop n)[j]?=some x->x.mN=true/\∀ i,((List.range (Γ.length - n)).map (·+n))[j]?=some i->Γ[i]?=some x:=by
 refine ⟨by simp,?_,fun j x hj=>⟨h x (mem_of_getElem? hj),fun i hi=>?_⟩⟩
 ·unfold List.Nodup;rw [List.pairwise_map]
  exact List.nodup_range.imp fun bN he=>bN (by omega)
 ·have ao:=(List.getElem?_eq_some_iff.1 hj).1;rw [List.length_drop] at ao;rw [getElem?_map,List.getElem?_range ao] at hi;cases hi;rw [List.getElem?_drop] at hj;show Γ[j+n]?=some x;rw [Nat.add_comm];exact hj
theorem tN {t:Tmp} {x:Value} (n:Nat) (hr:fn.results=#[.tmp t]) (he:e=.normal\/e=.ret) (hg:cq fr t=.v x) (ha:∀ x∈Γ.drop n,x.mN=true) (h:R (.v x) (Γ.drop n)):sC P fn 0 R e fr Γ :=
 have hd:=CH ha
 UG _ (Γ.drop n) hr he hg hd.1 hd.2.1 hd.2.2 h
theorem I8 {t:Tmp} {T:TypeId} {k:Nat} [hT:Ty P T true k] {i:Nat} {E:TypeId} {cs:List GV} (n:Nat) (hr:fn.results=#[.cell t T]) (he:e=.normal\/e=.ret) (hg:cq fr t=.loc i 0) (br:Γ[i]?=some (.box E cs)) (hk:cs.length=k) (hp:rv cs=true)
  (ha:∀ x∈Γ.drop n,x.mN=true) (h:R (.agg cs) (Γ.drop n)):sC P fn 0 R e fr Γ :=
 have hd:=CH ha
 UH _ (Γ.drop n) hr he hg br hk hp hd.1 hd.2.1 hd.2.2 h
end
section
variable {P:Program} {m:Nat} {Q:dR} {fr:List GV} {Γ:List Ob} {ops:Array Oper} {rest:List Oper} {d:Option Tmp} {op:Op} {ty:TypeId} {pos:String} {af:Array Edge}
theorem GL.Wu {t:TypeId} {x:Operand} {cs:List GV} (hx:ma (aM fr x)=some cs) (hp:rv cs=true) (h:GL P m ops Q rest (bf fr d (.box cs 0)) Γ):GL P m ops Q (⟨d,.box t x,ty,pos,af,none⟩::rest) fr Γ:=fun B K β w l hm hI hF=>by
 obtain ⟨vs,h1,h2⟩:=(hF.ev x).cells hx
 refine WL.box rfl fun b w' hn=>?_
 rw [h1] at hn;obtain ⟨hle,bc⟩:=hI.tM hn h2 (mo hp);exact h B _ β w' _ hm bc ((hF.mono hle (de.refl β)).put d (Rel.box (K:=kF K b cs) (β:=β) b 0 0 cs (fun j g hg=>by rw [Nat.zero_add];exact uI hg)))
theorem GL.borrow {f:FuncId} [hf:az P f] {args:List Operand} {mj:Array TypeId} {gs:List GV} {v:Value} (hc:GF P f gs [] (.v v) [])
  (hv:∀ B K β w l,Inv B K β Γ w->FR K β fr l->∃ K1,jj K1 w/\eW K1 (fun _=>.no) w/\aU K1 (fun _=>.no) (args.map (ev l)) gs)
  (h:GL P m ops Q rest (bf fr d (.v v)) Γ):GL P m ops Q (⟨d,.call ⟨.value (.func f),args.toArray,mj⟩,ty,pos,af,none⟩::rest) fr Γ:=fun B K β w l hm hI hF=>by
 obtain ⟨K1,h1,h2,h3⟩:=hv B K β w l hI hF
 have ri:(execOp (ev l) ⟨d,.call ⟨.value (.func f),args.toArray,mj⟩,ty,pos,af,none⟩).run P w=.ok (.enter f (args.map (ev l)).toArray) w:=by simp [execOp,resolve,ev,Deferred.ofValue,invoke,ly]
 refine WL.calls ri (hc _ K1 _ w _ rfl (Inv.new h1 h2) h3) ?_;rintro x w' ⟨K',bO,g,aD,bc,eO,rfl,rfl⟩;exact h B K β w' _ hm (hI.same bc.ext) (hF.put d (by rw [Rel.eg eO];exact .v _))
theorem GL.QA {f:FuncId} [hf:az P f] {args:List Operand} {mj:Array TypeId} {gs:List GV} {E k n:Nat} {rows:List (List GV)} (hc:GC P f gs [] fun g Δ=>∃ a c,g=.v (.slice a n c)/\Δ=[.vech E k rows (.slice a n c)])
  (hn:rows.length=n) (jO:∀ r∈rows,∀ g∈r,∃ x,g=.v x)
  (hv:∀ B K β w l,Inv B K β Γ w->FR K β fr l->∃ K1,jj K1 w/\eW K1 (fun _=>.no) w/\aU K1 (fun _=>.no) (args.map (ev l)) gs)
  (h:∀ a c,GL P m ops Q rest (bf fr d (.v (.slice a n c))) (Γ++[.vech E k rows (.slice a n c)])):GL P m ops Q (⟨d,.call ⟨.value (.func f),args.toArray,mj⟩,ty,pos,af,none⟩::rest) fr Γ:=fun B K β w l hm hI hF=>by
 obtain ⟨K1,h1,h2,h3⟩:=hv B K β w l hI hF
 have ri:(execOp (ev l) ⟨d,.call ⟨.value (.func f),args.toArray,mj⟩,ty,pos,af,none⟩).run P w=.ok (.enter f (args.map (ev l)).toArray) w:=by simp [execOp,resolve,ev,Deferred.ofValue,invoke,ly]
 refine WL.calls ri (hc _ K1 _ w _ rfl (Inv.new h1 h2) h3) ?_;rintro x w' ⟨K',bO,g,aD,bc,eO,a,c,rfl,rfl⟩;subst hn;obtain ⟨xs,e1,e2,e3,e4,e5⟩:=bc.ob 0 _ rfl;have hIs:=hI.same bc.ext
 have yv:∀ g∈rows.flatten,∃ x,g=.v x:=fun g hg=>by
  obtain ⟨r,h5,h6⟩:=List.mem_flatten.1 hg;exact jO r h5 g h6
 have hr:aU K β xs rows.flatten:=⟨e3.1,fun i v g h5 h6=>by
  obtain ⟨y,rfl⟩:=yv g (mem_of_getElem? h6)
  rw [Rel.eg (e3.2 i v _ h5 h6)];exact .v _⟩
 have dH:∀ b,(Value.slice a rows.length c).ownBlock=some b->w.heap.size<=b:=fun b hb=>by
  rcases bc.own 0 b (by rw [e1];exact hb) with h5 | h5
  ·exact h5.elim
  ·exact h5
 have bV:β Γ.length=.no:=hI.out _ (Nat.le_refl _);have oO:=hI.Bz (w':=w') (x:=.slice a rows.length c) bc.ext e2 dH hr e4;have hb:eT β Γ.length (.gr (.slice a rows.length c) rows.length) Γ.length=.gr (.slice a rows.length c) rows.length:=bh;have hle:de β (eT β Γ.length (.gr (.slice a rows.length c) rows.length)):=gJ (by rw [bV];trivial)
 have Ln:=oO.swap (i:=Γ.length) (y:=.vech E k rows (.slice a rows.length c)) ⟨xs,hb,e2,hr.mono (cw.refl K) hle,e4,fun b hb o=>by
  cases hk:K b o with
  | none=>rfl
  | some g=>have:=hI.fz.lt hk;have:=dH b hb;omega⟩
 rw [aV] at Ln;simp only [length_append,length_cons,length_nil,List.set_append_right _ _ (Nat.le_refl _),Nat.sub_self,set_cons_zero] at Ln;exact h a c B K _ w' _ hm Ln ((hF.mono (cw.refl K) hle).put d (by rw [Rel.eg eO];exact .v _))
theorem td {P:Program} {w:World} {t e ty:TypeId} {i:TypeInfo} (hu:P.underlying t=some (.slice e)) (hi:P.info? e=some i) (a b:Option Addr) (n c d:Nat) (hc:n<=c) :
  (Builtin.append_ #[t,t] ty #[.slice a n c,.slice b 0 d]).run P w=.ok (.slice a n c) w:=by
 cases a <;> cases b <;> simp [Builtin.append_,run_underlying hu,sizeOf,typeInfo,hi,Builtin.lenOf,hc,Builtin.firstCells,loadCells,loadCellsFrom,storeCells]
theorem GL.Us {s x:Operand} {t e k gS:Nat} [hT:n7 P t e k gS] (i:Nat) {dt:Tmp} {v:Value} {rows:List (List GV)} (hx:aM fr x=.sl k []) (hs:aM fr s=.v v) (br:Γ[i]?=some (.vech e k rows v))
  (h:GL P m ops Q rest (bf fr (some dt) (.v v)) Γ):GL P m ops Q (⟨some dt,.call ⟨.builtin .append,#[s,x],#[t,t]⟩,ty,pos,af,none⟩::rest) fr Γ:=fun B K β w l hm hI hF=>by
 obtain ⟨hu,⟨j,z,hi,_⟩,_⟩:=hT.parts;obtain ⟨xs,o1,o2,_⟩:=hI.ob i _ br;have qc:ev l s=v:=hF.gU hs;have sN:=hF.ev x;rw [hx] at sN;generalize rl:ev l x=vx at sN
 obtain ⟨b,d',rfl⟩:∃ b d',vx=.slice b 0 d':=by
  cases sN with
  | sl0 a c k=>exact ⟨a,c,rfl⟩
  | sl b o c _ _ hr _=>exact ⟨_,_,rfl⟩
 obtain ⟨a,n,c,rfl,hc⟩:∃ a n c,v=.slice a n c/\n<=c:=by
  rcases o2.2 with ⟨e1,e2⟩ | ⟨g,cap,cur,e1,_,_,e2,_⟩
  ·exact ⟨_,_,_,e1,Nat.le_refl _⟩
  ·exact ⟨_,_,_,e1,e2⟩
 have mz:=td (P:=P) (w:=w) (ty:=ty) hu hi a b n c d' hc;exact WL.val (v:=.slice a n c) (w':=w) (by simp [execOp,resolve,invoke,builtin,qc,rl,mz]) (h B K β w _ hm hI (hF.put _ (.v _)))
theorem GL.Uv {s x:Operand} {t e k gS:Nat} [hT:n7 P t e k gS] {i n fz:Nat} {dt:Tmp} {rows:List (List GV)} (hx:aM fr x=.sl k []) (hs:aM fr s=.vec i n) (br:Γ[i]?=some (.vec e k fz rows)) (hn:rows.length=n)
  (h:GL P m ops Q rest (bf fr (some dt) (.vec i n)) Γ):GL P m ops Q (⟨some dt,.call ⟨.builtin .append,#[s,x],#[t,t]⟩,ty,pos,af,none⟩::rest) fr Γ:=fun B K β w l hm hI hF=>by
 subst hn;obtain ⟨hu,⟨j,z,hi,_⟩,_⟩:=hT.parts;obtain ⟨h0,xs,o1,o2,_⟩:=hI.ob i _ br;have sK:=hF.ev s;rw [hs] at sK
 have qc:ev l s=h0:=by
  generalize hv:ev l s=v at sK
  cases sK with
  | vec _ _ a c hh =>
   obtain ⟨h',m',e1,e2,e3⟩:=hh;rw [o1] at e1;cases e1;exact e3 rfl
 have sN:=hF.ev x;rw [hx] at sN;generalize rl:ev l x=vx at sN
 obtain ⟨b,d',rfl⟩:∃ b d',vx=.slice b 0 d':=by
  cases sN with
  | sl0 a c k=>exact ⟨a,c,rfl⟩
  | sl b o c _ _ hr _=>exact ⟨_,_,rfl⟩
 obtain ⟨a,n,c,rfl,hc⟩:∃ a n c,h0=.slice a n c/\n<=c:=by
  rcases o2.2 with ⟨e1,e2⟩ | ⟨g,cap,cur,e1,_,_,e2,_⟩
  ·exact ⟨_,_,_,e1,Nat.le_refl _⟩
  ·exact ⟨_,_,_,e1,e2⟩
 have mz:=td (P:=P) (w:=w) (ty:=ty) hu hi a b n c d' hc;exact WL.val (v:=.slice a n c) (w':=w) (by simp [execOp,resolve,invoke,builtin,qc,rl,mz]) (h B K β w _ hm hI (hF.put _ (by have:=hF.ev s;rw [hs,qc] at this;exact this)))
theorem Dd {Γ:List Ob} {i:Nat} {x:Ob} (h:Γ[i]?=some x):oset Γ i x=Γ:=by
 rw [aV];apply List.ext_getElem?;intro j;rw [getElem?_set]
 by_cases e:i=j
 ·subst e;have:=(List.getElem?_eq_some_iff.1 h).1;rw [if_pos rfl,if_pos this,h]
 ·rw [if_neg e]
theorem GL.yb {s x:Operand} {t e k gS:Nat} [hT:n7 P t e k gS] (i:Nat) {n:Nat} {dt:Tmp} {a0:Option Addr} {c0:Nat} {rows news:List (List GV)} (hx:aM fr x=.sl k news) (hs:aM fr s=.v (.slice a0 n c0)) (br:Γ[i]?=some (.vech e k rows (.slice a0 n c0))) (hn:rows.length=n) (h1:mP news=true)
  (hb:n+news.length<=9223372036854775807/\(n+news.length) * gS<=140737488355328)
  (h:∀ a c,GL P m ops Q rest (bf fr (some dt) (.v (.slice a (n+news.length) c))) (oset Γ i (.vech e k (rows++news) (.slice a (n+news.length) c)))) :
  GL P m ops Q (⟨some dt,.call ⟨.builtin .append,#[s,x],#[t,t]⟩,ty,pos,af,none⟩::rest) fr Γ:=by
 cases news with
 | nil =>
  have h0:=h a0 c0;rw [append_nil,show n+([]:List (List GV)).length=n from rfl,Dd br] at h0;exact GL.Us i hx hs br h0
 | cons r rs=>exact GL.nW i hx hs br hn h1 rfl hb h
theorem GL.Au {s x:Operand} {t e k gS:Nat} [hT:n7 P t e k gS] {i n fz:Nat} {dt:Tmp} {rows news:List (List GV)} (hx:aM fr x=.sl k news) (hs:aM fr s=.vec i n) (br:Γ[i]?=some (.vec e k fz rows)) (hn:rows.length=n) (h1:mP news=true)
  (hb:n+news.length<=9223372036854775807/\(n+news.length) * gS<=140737488355328)
  (h:GL P m ops Q rest (bf fr (some dt) (.vec i (n+news.length))) (oset Γ i (.vec e k fz (rows++news)))) :
  GL P m ops Q (⟨some dt,.call ⟨.builtin .append,#[s,x],#[t,t]⟩,ty,pos,af,none⟩::rest) fr Γ:=by
 cases news with
 | nil =>
  rw [append_nil,show n+([]:List (List GV)).length=n from rfl,Dd br] at h;exact GL.Uv hx hs br hn h
 | cons r rs=>exact GL.app hx hs br hn h1 rfl hb h
theorem MB:∀ (us vs:List Value),vs.length=us.length->gI vs 0 us=us:=by
 have key:∀ (us a vs:List Value),vs.length=us.length->gI (a++vs) a.length us=a++us:=by
  intro us
  induction us with
  | nil=>intro a vs h;rw [List.eq_nil_of_length_eq_zero h];rfl
  | cons u us ih =>
   intro a vs h
   cases vs with
   | nil=>simp at h
   | cons v vs =>
    have hu:eM (a++v::vs) a.length u=(a++[u])++vs:=by
     clear ih h
     induction a with
     | nil=>rfl
     | cons x a ih=>rw [cons_append,length_cons,eM,ih];rfl
    have:=ih (a++[u]) vs (by simpa using h);rw [length_append,List.length_singleton] at this;rw [gI,hu,this];simp
 intro us vs h;exact key us [] vs h
theorem GL.XB {t:TypeId} {z:Value} {agg:Bool} {k:Nat} [hZ:qS P t z] [hT:Ty P t agg k] {dt ts:Tmp} {cs:List GV} {ZA:TypeId} {XE:String} {XT:Array Edge} {d2:Option Tmp} (Y6:z.cells.size=k) (hy:ma (cq fr ts)=some cs) (bN:Nat.beq ts dt=false) (gW:ju fr dt=true) (hk:cs.length=k) (h1:lZ cs=true) (hp:rv cs=true)
  (h:GL P m ops Q rest (bf (bf fr (some dt) (.box cs 0)) d2 (.v undef)) Γ):GL P m ops Q (⟨some dt,.alloc t,ty,pos,af,none⟩::⟨d2,.store t (.tmp dt) (.tmp ts),ZA,XE,XT,none⟩::rest) fr Γ:=fun B K β w l hm hI hF=>by
 refine WL.alloc (z:=z) fun b w1 hn=>?_
 obtain ⟨us,jr,kx⟩:=(hF.nth ts).cells hy
 have EB:ts≠dt:=by intro e;subst e;simp at bN
 have Tj:ev (put l (some dt) (.pointer (some ⟨b,0,none⟩))) (.tmp ts)=nth l ts:=nM EB _;have HI:ev (put l (some dt) (.pointer (some ⟨b,0,none⟩))) (.tmp dt)=.pointer (some ⟨b,0,none⟩):=r6 (mc hF gW) _
 have CW:us.length=k:=by rw [kx.1,hk]
 refine WL.st (t:=t) (k:=k) HI Tj hn.blk (by rw [jr];simpa using CW) (by omega) (by rw [jr];simpa using kx.lr h1) fun w2 hs=>?_
 have cv:uA z.cells 0 us=us.toArray:=by
  have:=ud us z.cells.toList 0;rw [MB us _ (by rw [Array.length_toList,Y6,CW])] at this;simpa using this
 rw [jr,toList_toArray,cv] at hs;have Xa:uG w w2 b (.cells us.toArray t):=⟨hn.fresh,by rw [hs.size];exact hn.size,hs.blk,hn.ext.step hs.ext fun j hj=>.inl (by subst hj;rw [hn.fresh];exact Nat.le_refl _)⟩;obtain ⟨hle,bc⟩:=hI.tM Xa kx (mo hp);exact h B _ β w2 _ hm bc (((hF.mono hle (de.refl β)).put (some dt) (Rel.box (K:=kF K b cs) (β:=β) b 0 0 cs (fun j g hg=>by rw [Nat.zero_add];exact uI hg))).put d2 (.v _))
end
end Go.Xg
namespace Go.Xg
open Go.RowKit Go.Xw Go.Proofs
open Go.Xp (Nd Ar)
open Go.Sp (Src)
open Go.Im (kM kL kK)
attribute [local irreducible] GW GL GO YG GC GA aQ aR
def aX (l:List ae):List (List GV):=l.map fun s=>[GV.v (sv s)]
def BZ (l:List Int):List (List GV):=l.map fun i=>[GV.v (ii i)]
def Hd (n:Nat) (h:Value):Prop:=∃ a c,h=.slice a n c
theorem zr (l:List ae) (hl:l.length<=1048576):GC Tryz.prog 32 [strs l] [] fun g Δ=>∃ h,Hd l.length h/\g=.v h/\Δ=[.vech 9 1 (aX l) h]:=by
 have hm:(l.map (fun s=>[GV.v (sv s)])).length=l.length:=by simp
 refine ah Tryz.func32 Tryz.ntmps32 ?_;refine GL.zj rfl ⟨by omega,by omega⟩ ?_;intro a c;refine cS ?_;refine ab ?_;refine GW.loop (fun k:Nat=>l.length - k) (fun k fr Γ=>∃ R Z,fr=[strs l,.any,.any,.v (.slice a (l.map (fun s=>[GV.v (sv s)])).length c),.v (ii (k:Nat)),.any,.any,.any,.any,.any,.any,.any,.any,.any,.any,.any,.any,.any,.any,.any,.any,.any]/\Γ=[.vech 9 1 R (.slice a (l.map (fun s=>[GV.v (sv s)])).length c)]/\k<=l.length/\R=(l.take k).map (fun s=>[GV.v (sv s)])++List.replicate (l.length - k) Z) 0 ?_ ?_
 ·exact ⟨_,_,Wk.av aj,_,_,rfl,rfl,Nat.zero_le _,by rw [hm];rfl⟩
 rintro k _ _ ⟨R,Z,rfl,rfl,hk,hR⟩
 have nc:R.length=l.length:=by rw [hR];exact kL hk
 have eF:R.length=(l.map (fun s=>[GV.v (sv s)])).length:=by rw [hm];exact nc
 by_cases ao:k < l.length
 ·have hx:l[k]?=some l[k]:=by simp [ao]
  have hr:(l.map (fun s=>[GV.v (sv s)]))[k]?=some ((fun s=>[GV.v (sv s)]) l[k]):=by rw [getElem?_map,hx];rfl
  have dq:decide ((k:Int) < ((l.map (fun s=>[GV.v (sv s)])).length:Int))=true:=by rw [hm];simpa using ao
  have cv:=kM (f:=(fun s=>[GV.v (sv s)])) (Z:=Z) hx;rw [<-hR] at cv;clear hR;generalize l[k]=x at *;refine ab ?_;refine kg ?_;refine ab ?_;exact ⟨k+1,⟨_,_,Wk.av aj,_,Z,rfl,rfl,ao,cv⟩,by show l.length - (k+1) < l.length - k;omega⟩
 ·have dq:decide ((k:Int) < ((l.map (fun s=>[GV.v (sv s)])).length:Int))=false:=by rw [hm];simpa using ao
  have lp:k=l.length:=by omega
  subst lp;rw [kK] at hR;subst hR;refine ab ?_;refine aS ?_;refine ab ?_
  (repeat (first | refine GW.ret ?_ | refine cL ?_ | refine cK ?_ | refine aJ ?_ | refine b7 ?_))
  exact tN 0 rfl (by first | exact .inr rfl | exact .inl rfl) rfl (fun x hx=>by rw [List.mem_singleton.1 hx];rfl) ⟨_,⟨_,_,by rw [hm]⟩,rfl,rfl⟩
theorem O0 (l:List Int) (hl:l.length<=1048576):GC Tryz.prog 82 [ints l] [] fun g Δ=>∃ h,Hd l.length h/\g=.v h/\Δ=[.vech 3 1 (BZ l) h]:=by
 have hm:(l.map (fun i=>[GV.v (ii i)])).length=l.length:=by simp
 refine ah Tryz.func82 Tryz.ntmps82 ?_;refine GL.zj rfl ⟨by omega,by omega⟩ ?_;intro a c;refine cS ?_;refine ab ?_;refine GW.loop (fun k:Nat=>l.length - k) (fun k fr Γ=>∃ R Z,fr=[ints l,.any,.any,.v (.slice a (l.map (fun i=>[GV.v (ii i)])).length c),.v (ii (k:Nat)),.any,.any,.any,.any,.any,.any,.any,.any,.any,.any,.any,.any,.any,.any,.any,.any,.any]/\Γ=[.vech 3 1 R (.slice a (l.map (fun i=>[GV.v (ii i)])).length c)]/\k<=l.length/\R=(l.take k).map (fun i=>[GV.v (ii i)])++List.replicate (l.length - k) Z) 0 ?_ ?_
 ·exact ⟨_,_,Wk.av aj,_,_,rfl,rfl,Nat.zero_le _,by rw [hm];rfl⟩
 rintro k _ _ ⟨R,Z,rfl,rfl,hk,hR⟩
 have nc:R.length=l.length:=by rw [hR];exact kL hk
 have eF:R.length=(l.map (fun i=>[GV.v (ii i)])).length:=by rw [hm];exact nc
 by_cases ao:k < l.length
 ·have hx:l[k]?=some l[k]:=by simp [ao]
  have hr:(l.map (fun i=>[GV.v (ii i)]))[k]?=some ((fun i=>[GV.v (ii i)]) l[k]):=by rw [getElem?_map,hx];rfl
  have dq:decide ((k:Int) < ((l.map (fun i=>[GV.v (ii i)])).length:Int))=true:=by rw [hm];simpa using ao
  have cv:=kM (f:=(fun i=>[GV.v (ii i)])) (Z:=Z) hx;rw [<-hR] at cv;clear hR;generalize l[k]=x at *;refine ab ?_;refine kg ?_;refine ab ?_;exact ⟨k+1,⟨_,_,Wk.av aj,_,Z,rfl,rfl,ao,cv⟩,by show l.length - (k+1) < l.length - k;omega⟩
 ·have dq:decide ((k:Int) < ((l.map (fun i=>[GV.v (ii i)])).length:Int))=false:=by rw [hm];simpa using ao
  have lp:k=l.length:=by omega
  subst lp;rw [kK] at hR;subst hR;refine ab ?_;refine aS ?_;refine ab ?_
  (repeat (first | refine GW.ret ?_ | refine cL ?_ | refine cK ?_ | refine aJ ?_ | refine b7 ?_))
  exact tN 0 rfl (by first | exact .inr rfl | exact .inl rfl) rfl (fun x hx=>by rw [List.mem_singleton.1 hx];rfl) ⟨_,⟨_,_,by rw [hm]⟩,rfl,rfl⟩
theorem J1 (l:List Ar) (hl:l.length<=1048576):GC Tryz.prog 33 [.sl 2 (l.map ay)] [] fun g Δ=>∃ h,Hd l.length h/\g=.v h/\Δ=[.vech 86 2 (List.map ay l) h]:=by
 have hm:(l.map (ay)).length=l.length:=by simp
 refine ah Tryz.func33 Tryz.ntmps33 ?_;refine GL.zj rfl ⟨by omega,by omega⟩ ?_;intro a c;refine cS ?_;refine ab ?_;refine GW.loop (fun k:Nat=>l.length - k) (fun k fr Γ=>∃ R Z,fr=[.sl 2 (l.map ay),.any,.any,.v (.slice a (l.map (ay)).length c),.v (ii (k:Nat)),.any,.any,.any,.any,.any,.any,.any,.any,.any,.any,.any,.any,.any,.any,.any,.any,.any,.any]/\Γ=[.vech 86 2 R (.slice a (l.map (ay)).length c)]/\k<=l.length/\R=(l.take k).map (ay)++List.replicate (l.length - k) Z) 0 ?_ ?_
 ·exact ⟨_,_,Wk.av aj,_,_,rfl,rfl,Nat.zero_le _,by rw [hm];rfl⟩
 rintro k _ _ ⟨R,Z,rfl,rfl,hk,hR⟩
 have nc:R.length=l.length:=by rw [hR];exact kL hk
 have eF:R.length=(l.map (ay)).length:=by rw [hm];exact nc
 by_cases ao:k < l.length
 ·have hx:l[k]?=some l[k]:=by simp [ao]
  have hr:(l.map (ay))[k]?=some ((ay) l[k]):=by rw [getElem?_map,hx];rfl
  have dq:decide ((k:Int) < ((l.map (ay)).length:Int))=true:=by rw [hm];simpa using ao
  have cv:=kM (f:=(ay)) (Z:=Z) hx;rw [<-hR] at cv;have hc:=Dp l[k];clear hR;generalize l[k]=x at *;refine ab ?_;refine U [] (hc) ?_;refine kg ?_;refine ab ?_;exact ⟨k+1,⟨_,_,Wk.av aj,_,Z,rfl,rfl,ao,cv⟩,by show l.length - (k+1) < l.length - k;omega⟩
 ·have dq:decide ((k:Int) < ((l.map (ay)).length:Int))=false:=by rw [hm];simpa using ao
  have lp:k=l.length:=by omega
  subst lp;rw [kK] at hR;subst hR;refine ab ?_;refine aS ?_;refine ab ?_
  (repeat (first | refine GW.ret ?_ | refine cL ?_ | refine cK ?_ | refine aJ ?_ | refine b7 ?_))
  exact tN 0 rfl (by first | exact .inr rfl | exact .inl rfl) rfl (fun x hx=>by rw [List.mem_singleton.1 hx];rfl) ⟨_,⟨_,_,by rw [hm]⟩,rfl,rfl⟩
def pQ (x:Go.Sp.Fn) (h:Value):List GV:=[.v (sv x.name),.v h,.v (ii x.body)]
def qO (x:Go.Sp.Fn) (h:Value):Ob:=.vech 9 1 (aX x.params) h
theorem Ud (x:Go.Sp.Fn) (hp:x.params.length<=1048576):GC Tryz.prog 62 [.agg (aq x)] [] fun g Δ=>∃ h,Hd x.params.length h/\g=.agg (pQ x h)/\Δ=[qO x h]:=by
 have h0:=zr x.params hp;refine ah Tryz.func62 Tryz.ntmps62 ?_;refine b9 [] (h0) ?_;rintro _ _ ⟨_,⟨a1,c1,rfl⟩,rfl,rfl⟩;refine cU ?_;refine ab ?_
 (repeat (first | refine GW.ret ?_ | refine cL ?_ | refine cK ?_ | refine aJ ?_ | refine b7 ?_))
 refine I8 3 rfl (by first | exact .inr rfl | exact .inl rfl) rfl rfl rfl rfl ?_ ?_
 ·intro x hx;rw [List.mem_singleton.1 hx];rfl
 ·exact ⟨_,⟨_,_,rfl⟩,rfl,rfl⟩
theorem RP (l:List Go.Sp.Fn) (hl:l.length<=1048576) (he:∀ x∈l,x.params.length<=1048576):GC Tryz.prog 34 [.sl 3 (l.map aq)] [] fun g Δ=>∃ h hs,Hd l.length h/\hs.length=l.length/\(∀ (i:Nat) x y,l[i]?=some x->hs[i]?=some y->Hd x.params.length y)/\g=.v h /\
  Δ=.vech 85 3 (List.zipWith pQ l hs) h::List.zipWith qO l hs:=by
 have hm:(l.map aq).length=l.length:=by simp
 refine ah Tryz.func34 Tryz.ntmps34 ?_;refine GL.zj rfl ⟨by omega,by omega⟩ ?_;intro a c;refine cS ?_;refine ab ?_
 refine GW.loop (fun k:Nat=>l.length - k) (fun k fr Γ=>∃ R Z hs,fr=[.sl 3 (l.map aq),.any,.any,.v (.slice a (l.map aq).length c),.v (ii (k:Nat)),.any,.any,.any,.any,.any,.any,.any,.any,.any,.any,.any,.any,.any,.any,.any,.any,.any,.any]/\Γ=.vech 85 3 R (.slice a (l.map aq).length c)::List.zipWith qO (l.take k) hs/\k<=l.length/\hs.length=k /\
  (∀ (i:Nat) x y,l[i]?=some x->hs[i]?=some y->Hd x.params.length y)/\R=List.zipWith pQ (l.take k) hs++List.replicate (l.length - k) Z) 0 ?_ ?_
 ·exact ⟨_,_,Wk.av aj,_,_,[],rfl,rfl,Nat.zero_le _,rfl,(fun i x y _ h=>by simp at h),by rw [hm];rfl⟩
 rintro k _ _ ⟨R,Z,hs,rfl,rfl,hk,Ep,Lz,hR⟩
 have nc:R.length=l.length:=by rw [hR,length_append,length_zipWith,length_take,length_replicate];omega
 have eF:R.length=(l.map aq).length:=by rw [hm];exact nc
 by_cases ao:k < l.length
 ·have hx:l[k]?=some l[k]:=by simp [ao]
  have hr:(l.map aq)[k]?=some (aq l[k]):=by rw [getElem?_map,hx];rfl
  have dq:decide ((k:Int) < ((l.map aq).length:Int))=true:=by rw [hm];simpa using ao
  have hex:=he _ (mem_of_getElem? hx);have hc:=Ud l[k] hex
  have jR:l.take (k+1)=l.take k++[l[k]]:=by rw [take_add_one,hx];rfl
  have LQ:∀ {γ:Type} (f:Go.Sp.Fn->Value->γ) (h:Value),List.zipWith f (l.take (k+1)) (hs++[h])=List.zipWith f (l.take k) hs++[f l[k] h]:=fun f h=>by
   rw [jR,List.zipWith_append (by rw [length_take];omega)];rfl
  have cv:∀ h,R.set k (pQ l[k] h)=List.zipWith pQ (l.take (k+1)) (hs++[h])++List.replicate (l.length - (k+1)) Z:=fun h=>by
   have hz:(List.zipWith pQ (l.take k) hs).length=k:=by rw [length_zipWith,length_take];omega
   rw [hR,LQ,show l.length - k=(l.length - (k+1))+1 by omega,List.replicate_succ,List.set_append_right _ _ (by omega),hz,Nat.sub_self,set_cons_zero];simp
  have NU:∀ h,Hd l[k].params.length h->∀ (i:Nat) x y,l[i]?=some x->(hs++[h])[i]?=some y->Hd x.params.length y:=fun h hh i x y h1 h2=>by
   by_cases hik:i < hs.length
   ·rw [List.getElem?_append_left hik] at h2;exact Lz i x y h1 h2
   ·have h3:=(List.getElem?_eq_some_iff.1 h2).1;rw [length_append,List.length_singleton] at h3
    have:i=k:=by omega
    subst this;rw [getElem?_append_right (by omega),Ep,Nat.sub_self] at h2;rw [hx] at h1
    cases h1;cases h2;exact hh
  clear hR;have S3:=LQ qO;unfold pQ qO at hc;generalize YF:l[k]=x at *;refine ab ?_;refine b9 [] (hc) ?_;rintro _ _ ⟨_,⟨a1,c1,rfl⟩,rfl,rfl⟩;refine cU ?_;refine ab ?_;refine kg ?_;refine ab ?_;refine ⟨k+1,⟨_,_,Wk.av aj,_,Z,hs++[_],rfl,?_,ao,by simp [Ep],NU _ ⟨a1,c1,rfl⟩,cv _⟩,by show l.length - (k+1) < l.length - k;omega⟩;rw [S3];rfl
 ·have dq:decide ((k:Int) < ((l.map aq).length:Int))=false:=by rw [hm];simpa using ao
  have lp:k=l.length:=by omega
  subst lp;rw [take_length,Nat.sub_self,List.replicate_zero,append_nil] at hR;subst hR;rw [take_length];refine ab ?_;refine aS ?_;refine ab ?_
  (repeat (first | refine GW.ret ?_ | refine cL ?_ | refine cK ?_ | refine aJ ?_ | refine b7 ?_))
  refine tN 0 rfl (by first | exact .inr rfl | exact .inl rfl) rfl (fun x hx=>?_) ⟨_,hs,⟨_,_,by rw [hm]⟩,Ep,Lz,rfl,rfl⟩
  rcases List.mem_cons.1 hx with rfl | hx
  ·rfl
  ·obtain ⟨i,hi⟩:=List.getElem?_of_mem hx;rw [List.getElem?_zipWith] at hi;split at hi
   ·cases hi;rfl
   ·cases hi
def lA (x:Nd) (h:Value):List GV:=[.v (ii x.kind),.v (ii x.at_),.v (ii x.n),.v (sv x.s),.v h]
def mw (x:Nd) (h:Value):Ob:=.vech 3 1 (BZ x.kids) h
theorem O2 (x:Nd) (hp:x.kids.length<=1048576):GC Tryz.prog 63 [.agg (au x)] [] fun g Δ=>∃ h,Hd x.kids.length h/\g=.agg (lA x h)/\Δ=[mw x h]:=by
 have h0:=O0 x.kids hp;refine ah Tryz.func63 Tryz.ntmps63 ?_;refine b9 [] (h0) ?_;rintro _ _ ⟨_,⟨a1,c1,rfl⟩,rfl,rfl⟩;refine cU ?_;refine ab ?_
 (repeat (first | refine GW.ret ?_ | refine cL ?_ | refine cK ?_ | refine aJ ?_ | refine b7 ?_))
 refine I8 3 rfl (by first | exact .inr rfl | exact .inl rfl) rfl rfl rfl rfl ?_ ?_
 ·intro x hx;rw [List.mem_singleton.1 hx];rfl
 ·exact ⟨_,⟨_,_,rfl⟩,rfl,rfl⟩
theorem MR (l:List Nd) (hl:l.length<=1048576) (he:∀ x∈l,x.kids.length<=1048576):GC Tryz.prog 35 [.sl 5 (l.map au)] [] fun g Δ=>∃ h hs,Hd l.length h/\hs.length=l.length/\(∀ (i:Nat) x y,l[i]?=some x->hs[i]?=some y->Hd x.kids.length y)/\g=.v h /\
  Δ=.vech 53 5 (List.zipWith lA l hs) h::List.zipWith mw l hs:=by
 have hm:(l.map au).length=l.length:=by simp
 refine ah Tryz.func35 Tryz.ntmps35 ?_;refine GL.zj rfl ⟨by omega,by omega⟩ ?_;intro a c;refine cS ?_;refine ab ?_
 refine GW.loop (fun k:Nat=>l.length - k) (fun k fr Γ=>∃ R Z hs,fr=[.sl 5 (l.map au),.any,.any,.v (.slice a (l.map au).length c),.v (ii (k:Nat)),.any,.any,.any,.any,.any,.any,.any,.any,.any,.any,.any,.any,.any,.any,.any,.any,.any,.any]/\Γ=.vech 53 5 R (.slice a (l.map au).length c)::List.zipWith mw (l.take k) hs/\k<=l.length/\hs.length=k /\
  (∀ (i:Nat) x y,l[i]?=some x->hs[i]?=some y->Hd x.kids.length y)/\R=List.zipWith lA (l.take k) hs++List.replicate (l.length - k) Z) 0 ?_ ?_
 ·exact ⟨_,_,Wk.av aj,_,_,[],rfl,rfl,Nat.zero_le _,rfl,(fun i x y _ h=>by simp at h),by rw [hm];rfl⟩
 rintro k _ _ ⟨R,Z,hs,rfl,rfl,hk,Ep,Lz,hR⟩
 have nc:R.length=l.length:=by rw [hR,length_append,length_zipWith,length_take,length_replicate];omega
 have eF:R.length=(l.map au).length:=by rw [hm];exact nc
 by_cases ao:k < l.length
 ·have hx:l[k]?=some l[k]:=by simp [ao]
  have hr:(l.map au)[k]?=some (au l[k]):=by rw [getElem?_map,hx];rfl
  have dq:decide ((k:Int) < ((l.map au).length:Int))=true:=by rw [hm];simpa using ao
  have hex:=he _ (mem_of_getElem? hx);have hc:=O2 l[k] hex
  have jR:l.take (k+1)=l.take k++[l[k]]:=by rw [take_add_one,hx];rfl
  have LQ:∀ {γ:Type} (f:Nd->Value->γ) (h:Value),List.zipWith f (l.take (k+1)) (hs++[h])=List.zipWith f (l.take k) hs++[f l[k] h]:=fun f h=>by
   rw [jR,List.zipWith_append (by rw [length_take];omega)];rfl
  have cv:∀ h,R.set k (lA l[k] h)=List.zipWith lA (l.take (k+1)) (hs++[h])++List.replicate (l.length - (k+1)) Z:=fun h=>by
   have hz:(List.zipWith lA (l.take k) hs).length=k:=by rw [length_zipWith,length_take];omega
   rw [hR,LQ,show l.length - k=(l.length - (k+1))+1 by omega,List.replicate_succ,List.set_append_right _ _ (by omega),hz,Nat.sub_self,set_cons_zero];simp
  have NU:∀ h,Hd l[k].kids.length h->∀ (i:Nat) x y,l[i]?=some x->(hs++[h])[i]?=some y->Hd x.kids.length y:=fun h hh i x y h1 h2=>by
   by_cases hik:i < hs.length
   ·rw [List.getElem?_append_left hik] at h2;exact Lz i x y h1 h2
   ·have h3:=(List.getElem?_eq_some_iff.1 h2).1;rw [length_append,List.length_singleton] at h3
    have:i=k:=by omega
    subst this;rw [getElem?_append_right (by omega),Ep,Nat.sub_self] at h2;rw [hx] at h1
    cases h1;cases h2;exact hh
  clear hR;have S3:=LQ mw;unfold lA mw at hc;generalize YF:l[k]=x at *;refine ab ?_;refine b9 [] (hc) ?_;rintro _ _ ⟨_,⟨a1,c1,rfl⟩,rfl,rfl⟩;refine cU ?_;refine ab ?_;refine kg ?_;refine ab ?_;refine ⟨k+1,⟨_,_,Wk.av aj,_,Z,hs++[_],rfl,?_,ao,by simp [Ep],NU _ ⟨a1,c1,rfl⟩,cv _⟩,by show l.length - (k+1) < l.length - k;omega⟩;rw [S3];rfl
 ·have dq:decide ((k:Int) < ((l.map au).length:Int))=false:=by rw [hm];simpa using ao
  have lp:k=l.length:=by omega
  subst lp;rw [take_length,Nat.sub_self,List.replicate_zero,append_nil] at hR;subst hR;rw [take_length];refine ab ?_;refine aS ?_;refine ab ?_
  (repeat (first | refine GW.ret ?_ | refine cL ?_ | refine cK ?_ | refine aJ ?_ | refine b7 ?_))
  refine tN 0 rfl (by first | exact .inr rfl | exact .inl rfl) rfl (fun x hx=>?_) ⟨_,hs,⟨_,_,by rw [hm]⟩,Ep,Lz,rfl,rfl⟩
  rcases List.mem_cons.1 hx with rfl | hx
  ·rfl
  ·obtain ⟨i,hi⟩:=List.getElem?_of_mem hx;rw [List.getElem?_zipWith] at hi;split at hi
   ·cases hi;rfl
   ·cases hi
def jc (p:Src) (hg ha hf hn:Value) (fs ns:List Value):List Ob :=
 .vech 9 1 (aX p.globals) hg::.vech 86 2 (p.arrays.map ay) ha::.vech 85 3 (List.zipWith pQ p.fns fs) hf::(List.zipWith qO p.fns fs++.vech 53 5 (List.zipWith lA p.nodes ns) hn::List.zipWith mw p.nodes ns)
structure Bx (p:Src) (hg ha hf hn:Value) (fs ns:List Value):Prop where
 g:Hd p.globals.length hg
 a:Hd p.arrays.length ha
 f:Hd p.fns.length hf
 n:Hd p.nodes.length hn
 fl:fs.length=p.fns.length
 nl:ns.length=p.nodes.length
 fh:∀ (i:Nat) x y,p.fns[i]?=some x->fs[i]?=some y->Hd x.params.length y
 nh:∀ (i:Nat) x y,p.nodes[i]?=some x->ns[i]?=some y->Hd x.kids.length y
theorem Al {α:Type} {f:α->Value->Ob} (hf:∀ a h,(f a h).mN=true) {l:List α} {hs:List Value}:∀ x∈List.zipWith f l hs,x.mN=true:=fun x hx=>by
 obtain ⟨i,hi⟩:=List.getElem?_of_mem hx;rw [List.getElem?_zipWith] at hi;split at hi
 ·cases hi;exact hf _ _
 ·cases hi
theorem Ae (p:Src) (hg ha hf hn:Value) (fs ns:List Value):∀ x∈jc p hg ha hf hn fs ns,x.mN=true:=fun x hx=>by
 unfold jc at hx
 rcases List.mem_cons.1 hx with rfl | hx
 ·rfl
 rcases List.mem_cons.1 hx with rfl | hx
 ·rfl
 rcases List.mem_cons.1 hx with rfl | hx
 ·rfl
 rcases List.mem_append.1 hx with hx | hx
 ·exact Al (fun _ _=>rfl) x hx
 rcases List.mem_cons.1 hx with rfl | hx
 ·rfl
 ·exact Al (fun _ _=>rfl) x hx
theorem F5 {α:Type} {f:α->Value->Ob} (hf:∀ a h,(f a h).mN=true) {l:List α} {hs:List Value} (r:Nat->Nat):(List.zipWith f l hs).map (Ob.dx r)=List.zipWith f l hs:=by
 refine (List.map_congr_left fun x hx=>?_).trans (List.map_id _);have:=Al hf x hx
 cases x <;> first | rfl | cases this
theorem J2 (x:Src) (hg:x.globals.length<=1048576) (ha:x.arrays.length<=1048576) (hf:x.fns.length<=1048576) (oh:∀ f∈x.fns,f.params.length<=1048576) (hn:x.nodes.length<=1048576) (ni:∀ n∈x.nodes,n.kids.length<=1048576) :
  GC Tryz.prog 10 [.agg (ak x)] [] fun g Δ=>∃ hg ha hf hn fs ns,Bx x hg ha hf hn fs ns/\g=.agg [.v hg,.v ha,.v hf,.v hn]/\Δ=jc x hg ha hf hn fs ns:=by
 have h0:=zr x.globals hg;have h1:=J1 x.arrays ha;have h2:=RP x.fns hf oh;have h3:=MR x.nodes hn ni;refine ah Tryz.func10 Tryz.ntmps10 ?_;refine b9 [] (h0) ?_;rintro _ _ ⟨_,⟨a0,c0,rfl⟩,rfl,rfl⟩;refine cU ?_;refine ab ?_;refine b9 [] (h1) ?_;rintro _ _ ⟨_,⟨a1,c1,rfl⟩,rfl,rfl⟩;refine cU ?_;refine ab ?_;refine b9 [] (h2) ?_;rintro _ _ ⟨_,fs,⟨a2,c2,rfl⟩,e1,e2,rfl,rfl⟩;rw [List.map_cons,F5 (fun _ _=>rfl)];refine cU ?_;refine ab ?_;refine b9 [] (h3) ?_;rintro _ _ ⟨_,ns,⟨a3,c3,rfl⟩,e3,e4,rfl,rfl⟩;rw [List.map_cons,F5 (fun _ _=>rfl)];refine cU ?_;refine ab ?_
 (repeat (first | refine GW.ret ?_ | refine cL ?_ | refine cK ?_ | refine aJ ?_ | refine b7 ?_))
 refine I8 3 rfl (by first | exact .inr rfl | exact .inl rfl) rfl rfl rfl rfl ?_ ?_
 ·exact Ae x _ _ _ _ fs ns
 ·exact ⟨_,_,_,_,fs,ns,⟨⟨_,_,rfl⟩,⟨_,_,rfl⟩,⟨_,_,rfl⟩,⟨_,_,rfl⟩,e1,e3,e2,e4⟩,rfl,rfl⟩
end Go.Xg
namespace Go.Xg
open Go.RowKit Go.Xw Go.Proofs
open Go.Xp (Nd T Ar aB aw)
open Go.Sp (Src)
open Go.Im
attribute [local irreducible] GW GL GO YG GC GA aQ aR
section
variable {B:Bs} {K:Fz} {β:Bt} {w:World} {l:List Value} {fr:List GV} {A C:List Ob}
theorem fE {x y:Operand} {E k:Nat} {rows:List (List GV)} {h z:Value} (hI:Inv B K β (A++(.vech E k rows h::C)) w) (hF:FR K β fr l) (hx:aM fr x=.v h) (hy:aM fr y=.v z) :
  ∃ K1,jj K1 w/\eW K1 (fun _=>.no) w/\aU K1 (fun _=>.no) ([x,y].map (ev l)) [.sl k rows,.v z]:=by
 obtain ⟨K1,hk,h1,h2,h3⟩:=hI.view (i:=A.length) (E:=E) (k:=k) (rows:=rows) (x:=h) (by rw [getElem?_append_right (Nat.le_refl _),Nat.sub_self];rfl);refine ⟨K1,h1,h2,?_⟩;show aU K1 _ [ev l x,ev l y] _;rw [hF.gU hx,hF.gU hy];exact .cons h3 (.cons (.v _) .nil)
end
theorem kc (l:List ae):(aX l).length=l.length:=by simp [aX]
theorem Ni (xs:List Int) (s:Int) (hl:xs.length<=1099511627776):GF Tryz.prog 85 [ints xs,.v (ii s)] [] (.v (ii (cB (fun x=>s==x) xs))) []:=by
 have dw:(xs.map fun i=>[GV.v (ii i)]).length=xs.length:=by simp
 refine ah Tryz.func85 Tryz.ntmps85 ?_;refine GW.range (xs.map fun i=>[GV.v (ii i)]).length (fun k fr Γ=>fr=[ints xs,.v (ii s),.any,.any,.any,.any,ints xs,.v (ii ((xs.map fun i=>[GV.v (ii i)]).length:Int)),.v (ii (k:Nat)),.any,.any,.any,.any,.any,.any,.any,.any,.any,.any]/\Γ=[]/\((xs.take k).all fun x=>!(s==x))=true) ?_ (by omega) ?_ ?_ ?_
 ·exact ⟨_,_,Wk.av aj,rfl,rfl,rfl⟩
 ·rintro k _ _ ⟨rfl,rfl,_⟩;exact ⟨rfl,rfl,rfl⟩
 ·rintro k _ _ ao ⟨rfl,rfl,aK⟩;rw [dw] at ao;obtain ⟨x,cH⟩:∃ x,xs[k]?=some x:=⟨xs[k],by simp [ao]⟩;have hr:=mq cH;have bm:=lN (f:=fun y:Int=>s==y) cH
  have hit:=fun h0=>lR (f:=fun y:Int=>s==y) cH h0 aK
  cases hb:(s==x) with
  | true =>
   rw [hit hb];exact ar
  | false =>
   refine ab ?_;exact ⟨rfl,rfl,_,_,Wk.av aj,rfl,rfl,by rw [bm,aK,hb];rfl⟩
 ·rintro _ _ ⟨rfl,rfl,aK⟩;rw [dw,take_length] at aK;rw [jq aK];exact ar
theorem F9 (xs:List Int) (s:Int) (hl:xs.length<=1099511627776):GF Tryz.prog 67 [ints xs,.v (ii s)] [] (.v (.bool (xs.contains s))) []:=by
 have hi:=Ni xs s hl
 have he:xs.contains s=xs.any (fun x=>s==x):=by rw [List.contains_eq_any_beq]
 rw [he,<-CK];generalize cB (fun x=>s==x) xs=i at *;refine ah Tryz.func67 Tryz.ntmps67 ?_;refine U [] (hi) ?_;exact al
theorem RL (p:Src) (name:ae) (ks:List Int) (a s:Nat) (n:Nd) (ls:List ae) (E1:TypeId) (ad:Option Addr) (cp:Nat) (hn:p.nodes[a]?=some n) (oR:ks.length<=1099511627776) (eA:ls.length<=1099511627776) (hs:s<=1099511627776) :
  GF Tryz.prog 66 [.v (ii (a:Nat)),.v (.slice ad ls.length cp),.box (ak p) 0,.box [.v (sv name)] 0,.box [ints ks] 0,.loc 0 0] [.box E1 [.v (ii (s:Nat))],.vech 9 1 (aX ls) (.slice ad ls.length cp)] (.tup [])
   [.box E1 [.v (ii ((if ft name ks n ls=true then s+1 else s:Nat):Nat))],.vech 9 1 (aX ls) (.slice ad ls.length cp)]:=by
 have hr:=fV hn;have hC:=F9 ks n.kind oR;have hL:=gz ls name eA
 have e1:(n.s==name)=true->ks.contains n.kind=true->(n.kind==13 || ls.contains name)=true->((if ft name ks n ls=true then s+1 else s:Nat))=s+1:=fun h1 h2 h3=>by unfold ft;rw [h1,h2,h3];rfl
 have e2:(n.s==name)=false\/ks.contains n.kind=false\/(n.kind==13 || ls.contains name)=false->((if ft name ks n ls=true then s+1 else s:Nat))=s:=fun h=>by unfold ft;rcases h with h | h | h <;> rw [h] <;> simp
 unfold au at hr;generalize hz:((if ft name ks n ls=true then s+1 else s:Nat))=z at *;refine cM Tryz.func66 Tryz.ntmps66 ?_
 cases h1:(n.s==name) with
 | false =>
  obtain rfl:=e2 (.inl h1);exact eu
 | true =>
  cases h2:ks.contains n.kind with
  | false =>
   rw [h2] at hC;obtain rfl:=e2 (.inr (.inl h2));refine ab ?_;refine U [] (hC) ?_;exact fm
  | true =>
   rw [h2] at hC
   cases h3:(n.kind==13) with
   | true =>
    obtain rfl:=e1 h1 h2 (by rw [h3];rfl);refine ab ?_;refine U [] (hC) ?_;exact fm
   | false =>
    cases h4:ls.contains name with
    | true =>
     rw [h4] at hL;obtain rfl:=e1 h1 h2 (by rw [h4];simp);refine ab ?_;refine U [] (hC) ?_;refine GL.borrow hL (fun B K β w l hI hF=>fE (A:=[_]) (C:=[_]) hI hF rfl rfl) ?_;refine bZ ?_;exact eu
    | false =>
     rw [h4] at hL;obtain rfl:=e2 (.inr (.inr (by rw [h3,h4];rfl)));refine ab ?_;refine U [] (hC) ?_;refine GL.borrow hL (fun B K β w l hI hF=>fE (A:=[_]) (C:=[_]) hI hF rfl rfl) ?_;refine bZ ?_;exact eu
end Go.Xg
set_option maxHeartbeats 4000000
namespace Go.Xg
open Go.RowKit Go.Xw Go.Proofs
open Go.Xp (Nd T Ar aB aw cQ)
open Go.Sp (Src)
open Go.Im
attribute [local irreducible] GW GL GO YG GC GA aQ aR
def FT (p:Src) (name:ae) (ks:List Int):GV:=.fn (.func 66) [] [.box (ak p) 0,.box [.v (sv name)] 0,.box [ints ks] 0,.loc 0 0]
def Qj (p:Src):GV:=.fn (.func 84) [] [.loc 1 0,.loc 2 0,.box (ak p) 0,.loc 3 0]
def C9 (p:Src) (name:ae) (ks:List Int) (E1 E2 E3 E4:TypeId) (s:Nat) (ls:List ae) (ad:Option Addr) (cp:Nat):List Ob :=
 [.box E1 [.v (ii (s:Nat))],.box E2 [FT p name ks],.box E3 [.v (.slice ad ls.length cp)],.box E4 [Qj p],.vech 9 1 (aX ls) (.slice ad ls.length cp)]
theorem Pc (p:Src) (name:ae) (ks:List Int) (E1 E2 E3 E4:TypeId) (hp:p.nodes.length<=1048576) (ef:∀ n∈p.nodes,n.kids.length<=1099511627776) (oR:ks.length<=1099511627776):∀ (N:Nat) (t:T),aB t<=N->∀ (a s:Nat) (ls:List ae) (ad:Option Addr) (cp:Nat),df p.nodes a t->ls.length+aB t<=8388608->s+aB t<=8388608 ->
  GC Tryz.prog 84 [.v (ii (a:Nat)),.loc 1 0,.loc 2 0,.box (ak p) 0,.loc 3 0] (C9 p name ks E1 E2 E3 E4 s ls ad cp) fun g Δ=>g=.tup []/\∃ gR gT,Δ=C9 p name ks E1 E2 E3 E4 (eR (fp (ft name ks)) t a s ls).1 (eR (fp (ft name ks)) t a s ls).2 gR gT:=by
 intro N
 induction N with
 | zero=>intro t h;have:=gO t;omega
 | succ N ih =>
 intro t hN a s ls ad cp bq eA hs
 cases t with
 | mk n l =>
 rw [Go.Xp.aB] at hN eA hs;rw [df] at bq;obtain ⟨hn,hk,rj⟩:=bq;rw [eR];have hr:=fV hn;have nf:=ef n (mem_of_getElem? hn);have ht:=RL p name ks a s n ls E1 ad cp hn oR (by omega) (by omega);rw [show (if ft name ks n ls=true then s+1 else s)=fp (ft name ks) s a (.mk n l) ls from rfl] at ht
 have eL:fp (ft name ks) s a (.mk n l) ls<=s+1:=by unfold fp;split <;> omega
 generalize fp (ft name ks) s a (.mk n l) ls=s1 at *
 have pz:n.kids.length=l.length:=by rw [hk,cQ]
 unfold au at hr;unfold C9 FT Qj;refine ah Tryz.func84 Tryz.ntmps84 ?_;refine GL.nG [0,4] ht rfl rfl rfl kC ?_;rintro _ _ ⟨rfl,rfl⟩;refine cU ?_;refine ab ?_;refine GW.range (n.kids.map fun i=>[GV.v (ii i)]).length (fun k fr Γ=>∃ gR gT,fr=[.v (ii (a:Nat)),.loc 1 0,.loc 2 0,.box (ak p) 0,.loc 3 0,.any,.any,.any,.any,.any,.any,.any,.any,.any,.any,.any,.any,ints n.kids,.v (ii ((n.kids.map fun i=>[GV.v (ii i)]).length:Int)),.v (ii (k:Nat)),.any,.any,.any,.any,.any,.any,.any,.any,.any,.any,.any,.any,.any,.any,.any,.any,.any,.any,.any,.any,.any,.any,.any]/\Γ=C9 p name ks E1 E2 E3 E4 (bU (fp (ft name ks)) (l.take k) (a+1) s1 ls).1 (bU (fp (ft name ks)) (l.take k) (a+1) s1 ls).2 gR gT) ?_ (by rw [length_map];omega) ?_ ?_ ?_
 ·exact ⟨_,_,Wk.av aj,ad,cp,rfl,rfl⟩
 ·rintro k _ _ ⟨ad,cp,rfl,rfl⟩;exact ⟨rfl,rfl,rfl⟩
 ·rintro k _ _ ao ⟨ad,cp,rfl,rfl⟩;rw [length_map,pz] at ao;obtain ⟨u,hu⟩:∃ u,l[k]?=some u:=⟨l[k],by simp [ao]⟩;have iC:=rm (n:=a+1) hu;rw [<-hk] at iC;have tS:=mq iC;have b6:=jd hu;have EL:df p.nodes (a+1+aw (l.take k)) u:=dh.ix l (a+1) k u rj hu
  have hlen:(bU (fp (ft name ks)) (l.take k) (a+1) s1 ls).2.length<=ls.length+aw (l.take k):=by
   rw [kJ,length_append];have:=gY (l.take k);omega
  have V2:(bU (fp (ft name ks)) (l.take k) (a+1) s1 ls).1<=s1+aw (l.take k):=by
   rw [BM];have:=uQ (ft name ks) (l.take k) ls;omega
  rw [vV _ hu];generalize (bU (fp (ft name ks)) (l.take k) (a+1) s1 ls).1=s2 at *;generalize (bU (fp (ft name ks)) (l.take k) (a+1) s1 ls).2=ls2 at *;have hv:=ih u (by omega) (a+1+aw (l.take k)) s2 ls2 ad cp EL (by omega) (by omega);unfold C9 FT Qj at hv |-;refine ab ?_;refine GL.nG [0,1,2,3,4] hv rfl rfl rfl kC ?_;rintro _ _ ⟨rfl,gR,gT,rfl⟩;refine cU ?_;refine ab ?_;exact ⟨rfl,rfl,_,_,Wk.av aj,gR,gT,rfl,rfl⟩
 ·rintro _ _ ⟨ad,cp,rfl,rfl⟩;rw [length_map,pz,take_length]
  have hlen:(bU (fp (ft name ks)) l (a+1) s1 ls).2.length<=ls.length+aw l:=by
   rw [kJ,length_append];have:=gY l;omega
  generalize (bU (fp (ft name ks)) l (a+1) s1 ls).1=s2 at *;generalize (bU (fp (ft name ks)) l (a+1) s1 ls).2=ls2 at *;have Ex:(aX ls2).length=ls2.length:=kc ls2;unfold C9 FT Qj;refine aJ ?_
  cases hv:(n.kind==13) with
  | false =>
   rw [if_neg (by simpa using hv)];refine ab ?_;refine cl ?_;exact ⟨rfl,ad,cp,rfl⟩
  | true =>
   rw [if_pos (by simpa using hv)];refine ab ?_;refine GW.draw (.q 0 (.q 1 (.q 2 (.q 3 (.q 4 (.q 5 (.q 6 (.a 7 (.a 8 (.a 9 .nil)))))))))) (by kernel_rfl) (by kernel_rfl) ?_;refine ai ?_;refine dk ?_;refine ai ?_;refine OA rfl rfl (GL.nW 4 (news:=[[.v (sv n.s)]]) rfl rfl rfl (by first | rfl | assumption) rfl rfl (by refine ⟨?_,?_⟩;(· show _+1<=_;omega);(· show (_+1) * _<=_;omega)) ?_);intro mU mW;refine c8 ?_;refine ai ?_;refine ab ?_;refine cl ?_;exact ⟨rfl,mU,mW,by simp [aX]⟩
end Go.Xg
namespace Go.Xg
open Go.RowKit Go.Xw Go.Proofs
open Go.Xp (Nd T Ar aB aw)
open Go.Sp (Src)
open Go.Im
attribute [local irreducible] GW GL GO YG GC GA aQ aR
theorem oI (l:List ae):mP (l.map fun s=>[GV.v (sv s)])=true:=by
 induction l with
 | nil=>rfl
 | cons s l ih=>rw [List.map_cons,mP,ih];rfl
theorem GW.D5 {P:Program} {m:Nat} {c:Code} {Q:dR} {fr bM:List GV} {Γ aD:List Ob} (h1:sn fr bM) (h2:Γ=aD) (h:GW P m c Q bM aD):GW P m c Q fr Γ:=by
 subst h2;exact GW.wk (Wk.av h1) h
theorem QH (p:Src) (name:ae) (ks:List Int) (E1:TypeId) (i:Nat) (f:Go.Sp.Fn) (t:T) (hp:p.nodes.length<=1048576) (ef:∀ n∈p.nodes,n.kids.length<=1099511627776) (oR:ks.length<=1099511627776)
  (hf:p.fns[i]?=some f) (nj:f.params.length<=1048576) (hb:0<=f.body) (bq:df p.nodes f.body.toNat t) (b6:aB t<=1048576) :
  GF Tryz.prog 65 [.agg (ak p),.v (ii (i:Nat)),FT p name ks] [.box E1 [.v (ii (0:Nat))]] (.tup []) [.box E1 [.v (ii ((jl (ft name ks) t f.params:Nat):Int))]]:=by
 have hr:(p.fns.map aq)[i]?=some (aq f):=by rw [getElem?_map,hf];rfl
 have ct:(f.params.map fun s=>[GV.v (sv s)]).length=f.params.length:=by simp
 have eH:=oI f.params
 have SJ:(eR (fp (ft name ks)) t f.body.toNat 0 f.params).1=jl (ft name ks) t f.params:=by rw [KQ];omega
 obtain ⟨b,ra⟩:∃ b:Nat,f.body=(b:Int):=⟨f.body.toNat,by omega⟩;rw [ra,Int.toNat_natCast] at bq SJ;rw [<-SJ];unfold aq at hr;rw [ra] at hr;unfold FT;refine cM Tryz.func65 Tryz.ntmps65 ?_;refine gP ?_;refine GL.wk (Wk.freeze (i:=1) rfl rfl rfl (Nat.le_refl _)) ?_;refine GN (by simp only [mx,lS];rfl) ?_;refine GL.wk (Wk.av (bM:=[.any,.v (ii (i:Nat)),.any,.box (ak p) 0,.any,.loc 2 0,.any,.any,.any,.any,.any,.any,.any,strs f.params,.any,.any,.any,.any,.any,.any,.any,.any,.any,.any]) aj) ?_;refine GL.wk (Wk.lY 9 1) ?_;refine GL.yb 3 rfl rfl rfl rfl eH (by refine ⟨?_,?_⟩;(· rw [ct];omega);(· rw [ct];omega)) ?_;intro ad cp;rw [ct];refine bZ ?_;simp only [nil_append,length_nil,Nat.zero_add];refine ab ?_;refine GW.D5 (bM:=[.any,.v (ii (i:Nat)),.any,.box (ak p) 0,.any,.loc 2 0,.loc 4 0,.loc 5 0,.any,.any,.any,.any,.any,.any,.any,.any,.any,.any,.any,.any,.any,.any,.any,.any]) (aD:=[.box E1 [.v (ii (0:Nat))],.gone,.box _ [.fn (.func 66) [] [.box (ak p) 0,.box [.v (sv name)] 0,.box [ints ks] 0,.loc 0 0]],.vech 9 1 (aX f.params) (.slice ad f.params.length cp),.box _ [.v (.slice ad f.params.length cp)],.box _ [.fn (.func 84) [] [.loc 2 0,.loc 4 0,.box (ak p) 0,.loc 5 0]]]) aj rfl ?_;refine GW.draw (.q 0 (.q 1 (.q 2 (.q 3 (.q 4 (.q 5 (.q 6 (.a 7 .nil)))))))) (by kernel_rfl) (by kernel_rfl) ?_;refine ai ?_;have hv:=Pc p name ks E1;refine OA rfl rfl (GL.nG [0,2,4,5,3] (hv _ _ _ hp ef oR _ t (Nat.le_refl _) b 0 f.params ad cp bq (by omega) (by omega)) rfl rfl rfl kC ?_);rintro _ _ ⟨rfl,gR,gT,rfl⟩;refine ⟨by simp [C9],?_⟩;unfold C9;refine c8 ?_;refine ai ?_;exact eu
end Go.Xg
namespace Go.Xg
open Go.RowKit Go.Xw Go.Proofs
open Go.Xp (Nd T Ar aB aw)
open Go.Sp (Src)
open Go.Im
attribute [local irreducible] GW GL GO YG GC GA aQ aR
def tV (n:Nd):Bool:=(n.kind==4&&n.s==[115,105,122,101])&&((n.kids.length:Int)==1)
theorem A3 (p:Src) (a:Nat) (n:Nd) (hn:p.nodes[a]?=some n):GF Tryz.prog 124 [.agg (ak p),.v (ii (a:Nat))] [] (.v (.bool (tV n))) []:=by
 have hr:=fV hn
 have ef:(n.kids.map fun i=>[GV.v (ii i)]).length=n.kids.length:=by simp
 unfold tV;rw [<-ef];unfold au ints at hr;generalize (n.kids.map fun i=>[GV.v (ii i)])=kk at *
 cases h1:(n.kind==4)
 all_goals cases h2:(n.s==[115,105,122,101])
 all_goals
  refine ah Tryz.func124 Tryz.ntmps124 ?_;exact al
theorem TD (p:Src) (s:ae) (hn:p.fns.length<=1099511627776):GF Tryz.prog 184 [.agg (ak p),.v (sv s)] [] (.v (ii (la p s))) []:=by
 have hF:=Sh p s hn;unfold la oB pE dc
 cases h1:(s==[103,101,116]) with
 | true =>
  rw [if_pos (by simpa using h1)];refine ah Tryz.func184 Tryz.ntmps184 ?_;exact al
 | false =>
  rw [if_neg (by simpa using h1)]
  cases h2:(s==[112,117,116]) with
  | true =>
   rw [if_pos (.inl (by simpa using h2))];refine ah Tryz.func184 Tryz.ntmps184 ?_;exact al
  | false =>
   cases h3:(s==[115,105,122,101]) with
   | true =>
    rw [if_pos (.inr (by simpa using h3))];refine ah Tryz.func184 Tryz.ntmps184 ?_;exact al
   | false =>
    rw [if_neg (by simpa using And.intro (show ¬ s=[112,117,116] by simpa using h2) (show ¬ s=[115,105,122,101] by simpa using h3))];unfold cB at hF
    cases hx:p.fns.findIdx? (fun f:Go.Sp.Fn=>f.name==s) with
    | none =>
     rw [hx] at hF
     have hd:decide ((0:Int) <= -1)=false:=by decide
     refine ah Tryz.func184 Tryz.ntmps184 ?_;refine U [] (hF) ?_;exact al
    | some i =>
     rw [hx] at hF;have hi:i < p.fns.length:=(List.findIdx?_eq_some_iff_getElem.1 hx).1;obtain ⟨f,hf⟩:∃ f,p.fns[i]?=some f:=⟨p.fns[i],by simp [hi]⟩
     have hr:(p.fns.map aq)[i]?=some (aq f):=by rw [getElem?_map,hf];rfl
     have ct:(f.params.map fun s=>[GV.v (sv s)]).length=f.params.length:=by simp
     have hd:decide ((0:Int)<=((i:Nat):Int))=true:=by simp
     unfold aq at hr;simp only at hF |-;unfold lu;rw [hf];simp only;rw [<-ct];refine ah Tryz.func184 Tryz.ntmps184 ?_;refine U [] (hF) ?_;exact al
end Go.Xg
namespace Go.Xg
open Go.RowKit Go.Xw Go.Proofs
open Go.Xp (Nd T Ar aB aw cQ bL)
open Go.Sp (Src)
open Go.Im
attribute [local irreducible] GW GL GO YG GC GA aQ aR
theorem HO {p:Src} {a:Nat} {n:Nd} {l:List T} (bq:df p.nodes a (.mk n l)):cy (.mk n l)=tV n:=by
 rw [df] at bq;unfold cy tV dc
 congr 1
 rw [bq.2.1,cQ]
 exact Bool.eq_iff_iff.2 (by
  show ((l.length==1)=true)↔_
  simp only [beq_iff_eq];omega)
theorem Gl (p:Src) (a:Nat) (n:Nd) (l:List T) (ls:List ae) (bq:df p.nodes a (.mk n l)) (iz:p.fns.length<=1099511627776) (jg:p.arrays.length<=1099511627776) (eA:ls.length<=1099511627776) :
  GF Tryz.prog 148 [.agg (ak p),.v (ii (a:Nat)),strs ls] [] (.v (ii (dB p (.mk n l) ls))) []:=by
 have hs:=HO bq;rw [df] at bq;obtain ⟨hn,hk,rj⟩:=bq;have hS:=A3 p a n hn;have hr:=fV hn
 have ef:(n.kids.map fun i=>[GV.v (ii i)]).length=l.length:=by rw [length_map,hk,cQ]
 unfold dB;rw [hs]
 cases hz:tV n with
 | true =>
  rw [hz] at hS;rw [if_pos rfl]
  have fb:l.length=1:=by
   unfold tV at hz;simp only [Bool.and_eq_true,beq_iff_eq] at hz;rw [hk,cQ] at hz;omega
  obtain ⟨u,rfl⟩:∃ u,l=[u]:=by
   match l,fb with
   | [u],_=>exact ⟨u,rfl⟩
  have hm:p.nodes[a+1]?=some u.n:=by
   rw [dh] at rj;have:=rj.1
   cases u;rw [df] at this;exact this.1
  have zb:n.kids[0]?=some (((a+1:Nat)):Int):=by rw [hk];rfl
  have ri:=mq zb;have gD:=fV hm;show GF _ _ _ _ (.v (ii (if eP p u.n ls=true then 24 else 0))) _;generalize u.n=m at *;have hA:=w9 p m.s jg;have hL:=gz ls m.s eA;have hb:eP p m ls=((m.kind != 2 || decide (cB (fun x:Ar=>x.name==m.s) p.arrays < 0)) || ls.contains m.s):=rfl;rw [hb];generalize cB (fun x:Ar=>x.name==m.s) p.arrays=z at *;unfold au at hr gD
  cases h1:(m.kind != 2) with
  | true =>
   refine ah Tryz.func148 Tryz.ntmps148 ?_;refine U [] (hS) ?_;refine GW.draw (.q 0 (.q 1 (.q 2 (.q 3 (.q 4 (.q 5 (.q 6 (.q 7 (.a 8 (.a 9 .nil)))))))))) (by kernel_rfl) (by kernel_rfl) ?_;refine ai ?_;exact ar
  | false =>
   cases h2:decide (z < 0) with
   | true =>
    refine ah Tryz.func148 Tryz.ntmps148 ?_;refine U [] (hS) ?_;refine GW.draw (.q 0 (.q 1 (.q 2 (.q 3 (.q 4 (.q 5 (.q 6 (.q 7 (.a 8 (.a 9 .nil)))))))))) (by kernel_rfl) (by kernel_rfl) ?_;refine ai ?_;refine ab ?_;refine U [] (hA) ?_;exact al
   | false =>
    generalize ls.contains m.s=b at *;cases b
    all_goals
     refine ah Tryz.func148 Tryz.ntmps148 ?_;refine U [] (hS) ?_;refine GW.draw (.q 0 (.q 1 (.q 2 (.q 3 (.q 4 (.q 5 (.q 6 (.q 7 (.a 8 (.a 9 .nil)))))))))) (by kernel_rfl) (by kernel_rfl) ?_;refine ai ?_;refine ab ?_;refine U [] (hA) ?_;refine U [] (hL) ?_;exact al
 | false =>
  rw [hz] at hS;rw [if_neg (by decide)];have hM:=TD p n.s iz;show GF _ _ _ _ (.v (ii (if la p n.s = -1 then 22 else if la p n.s=(l.length:Int) then 0 else 23))) _;generalize la p n.s=z at *;rw [<-ef];unfold au at hr;unfold ints at hr;generalize (n.kids.map fun i=>[GV.v (ii i)])=kk at *
  cases h1:(z == -1) with
  | true =>
   rw [if_pos (by simpa using h1)];refine ah Tryz.func148 Tryz.ntmps148 ?_;refine U [] (hS) ?_;refine U [] (hM) ?_;exact al
  | false =>
   rw [if_neg (by simpa using h1)]
   cases h2:(z==(kk.length:Int)) with
   | true =>
    rw [if_pos (by simpa using h2)];refine ah Tryz.func148 Tryz.ntmps148 ?_;refine U [] (hS) ?_;refine U [] (hM) ?_;exact al
   | false =>
    rw [if_neg (by simpa using h2)];refine ah Tryz.func148 Tryz.ntmps148 ?_;refine U [] (hS) ?_;refine U [] (hM) ?_;exact al
theorem GD (p:Src) (a:Nat) (n:Nd) (l:List T) (ls:List ae) (bq:df p.nodes a (.mk n l)) (iz:p.fns.length<=1099511627776) (jg:p.arrays.length<=1099511627776) (fa:p.globals.length<=1099511627776) (eA:ls.length<=1099511627776) :
  GF Tryz.prog 125 [.agg (ak p),.v (ii (a:Nat)),strs ls] [] (.v (ii (bp p (.mk n l) ls))) []:=by
 have hC:=Gl p a n l ls bq iz jg eA
 have hn:p.nodes[a]?=some n:=by rw [df] at bq;exact bq.1
 clear bq;have hr:=fV hn;have hL:=gz ls n.s eA;have hG:=gz p.globals n.s fa;have hA:=w9 p n.s jg
 have oS:(ls.map fun s=>[GV.v (sv s)]).length=ls.length:=by simp
 have he:bp p (.mk n l) ls=(if n.kind=13 then (if ls.contains n.s=true then 21 else if ls.length>=40 then 26 else 0)
  else if n.kind=2\/n.kind=7 then (if ls.contains n.s=false/\p.globals.contains n.s=false then 22 else 0)
  else if n.kind=3\/n.kind=8 then (if ls.contains n.s=true\/cB (fun x:Ar=>x.name==n.s) p.arrays < 0 then 24 else 0)
  else if n.kind=4 then dB p (.mk n l) ls else 0):=rfl
 rw [he];generalize dB p (.mk n l) ls=cf at *;obtain ⟨kd,at_,nn,s,ks⟩:=n;simp only at *;unfold au at hr;simp only at hr;generalize cB (fun x:Ar=>x.name==s) p.arrays=z at *;generalize ls.contains s=b at *;generalize p.globals.contains s=g at *;rw [<-oS]
 by_cases eE:kd=13
 ·subst eE
  have Ia:((13:Int)==13)=true:=by decide
  rw [if_pos rfl]
  cases b with
  | true =>
   refine ah Tryz.func125 Tryz.ntmps125 ?_;refine U [] (hL) ?_;exact al
  | false =>
   cases h4:decide ((40:Int)<=(((ls.map fun s=>[GV.v (sv s)]).length:Nat):Int)) with
   | true =>
    rw [if_neg (by decide),if_pos (by simp at h4;omega)];refine ah Tryz.func125 Tryz.ntmps125 ?_;refine U [] (hL) ?_;exact al
   | false =>
    rw [if_neg (by decide),if_neg (by simp at h4;omega)];refine ah Tryz.func125 Tryz.ntmps125 ?_;refine U [] (hL) ?_;exact al
 rw [if_neg eE]
 by_cases h2:kd=2
 ·subst h2
  have Ia:((2:Int)==13)=false:=by decide
  have q2:((2:Int)==2)=true:=by decide
  rw [if_pos (by decide)]
  cases b with
  | true =>
   refine ah Tryz.func125 Tryz.ntmps125 ?_;refine U [] (hL) ?_;exact al
  | false =>
   cases g
   all_goals
    refine ah Tryz.func125 Tryz.ntmps125 ?_;refine U [] (hL) ?_;refine U [] (hG) ?_;exact al
 by_cases h7:kd=7
 ·subst h7
  have Ia:((7:Int)==13)=false:=by decide
  have q2:((7:Int)==2)=false:=by decide
  have q7:((7:Int)==7)=true:=by decide
  rw [if_pos (by decide)]
  cases b with
  | true =>
   refine ah Tryz.func125 Tryz.ntmps125 ?_;refine U [] (hL) ?_;exact al
  | false =>
   cases g
   all_goals
    refine ah Tryz.func125 Tryz.ntmps125 ?_;refine U [] (hL) ?_;refine U [] (hG) ?_;exact al
 rw [if_neg (by rintro (h | h);(· exact h2 h);exact h7 h)]
 by_cases h3:kd=3
 ·subst h3
  have Ia:((3:Int)==13)=false:=by decide
  have q2:((3:Int)==2)=false:=by decide
  have q7:((3:Int)==7)=false:=by decide
  have q3:((3:Int)==3)=true:=by decide
  rw [if_pos (by decide)]
  cases b with
  | true =>
   refine ah Tryz.func125 Tryz.ntmps125 ?_;refine U [] (hL) ?_;exact al
  | false =>
   cases hz:decide (z < 0) with
   | true =>
    rw [if_pos (.inr (by simpa using hz))];refine ah Tryz.func125 Tryz.ntmps125 ?_;refine U [] (hL) ?_;refine U [] (hA) ?_;exact al
   | false =>
    rw [if_neg (by rintro (h | h);(· cases h);(· simp at hz;omega))];refine ah Tryz.func125 Tryz.ntmps125 ?_;refine U [] (hL) ?_;refine U [] (hA) ?_;exact al
 by_cases h8:kd=8
 ·subst h8
  have Ia:((8:Int)==13)=false:=by decide
  have q2:((8:Int)==2)=false:=by decide
  have q7:((8:Int)==7)=false:=by decide
  have q3:((8:Int)==3)=false:=by decide
  have q8:((8:Int)==8)=true:=by decide
  rw [if_pos (by decide)]
  cases b with
  | true =>
   refine ah Tryz.func125 Tryz.ntmps125 ?_;refine U [] (hL) ?_;exact al
  | false =>
   cases hz:decide (z < 0) with
   | true =>
    rw [if_pos (.inr (by simpa using hz))];refine ah Tryz.func125 Tryz.ntmps125 ?_;refine U [] (hL) ?_;refine U [] (hA) ?_;exact al
   | false =>
    rw [if_neg (by rintro (h | h);(· cases h);(· simp at hz;omega))];refine ah Tryz.func125 Tryz.ntmps125 ?_;refine U [] (hL) ?_;refine U [] (hA) ?_;exact al
 rw [if_neg (by rintro (h | h);(· exact h3 h);exact h8 h)]
 by_cases h4:kd=4
 ·subst h4
  have Ia:((4:Int)==13)=false:=by decide
  have q2:((4:Int)==2)=false:=by decide
  have q7:((4:Int)==7)=false:=by decide
  have q3:((4:Int)==3)=false:=by decide
  have q8:((4:Int)==8)=false:=by decide
  have q4:((4:Int)==4)=true:=by decide
  rw [if_pos rfl];refine ah Tryz.func125 Tryz.ntmps125 ?_;refine U [] (hL) ?_;refine U [] (hC) ?_;exact al
 rw [if_neg h4]
 have Ia:(kd==13)=false:=by simpa using eE
 have q2:(kd==2)=false:=by simpa using h2
 have q7:(kd==7)=false:=by simpa using h7
 have q3:(kd==3)=false:=by simpa using h3
 have q8:(kd==8)=false:=by simpa using h8
 have q4:(kd==4)=false:=by simpa using h4
 refine ah Tryz.func125 Tryz.ntmps125 ?_;refine U [] (hL) ?_;exact al
end Go.Xg
namespace Go.Xg
open Go.RowKit Go.Xw Go.Proofs
open Go.Xp (Nd T Ar aB aw cQ bL)
open Go.Sp (Src)
open Go.Im
attribute [local irreducible] GW GL GO YG GC GA aQ aR
theorem Sj {K K1:Fz} {β:Bt} {v:Value} {gs:List GV} (hk:cw K K1) (hp:∀ g∈gs,g.pc=true) (h:Rel K β v (.agg gs)):Rel K1 (fun _=>.no) v (.agg gs):=by
 cases h with
 | agg vs cs hl h =>
  exact .agg vs gs hl fun i v g h1 h2=>((h i v g h1 h2).mono hk (de.refl β)).pc (hp g (mem_of_getElem? h2))
theorem I2 (p:Src):∀ g∈ak p,g.pc=true:=fun g hg=>by
 simp only [ak,List.mem_cons,List.not_mem_nil,or_false] at hg
 rcases hg with rfl | rfl | rfl | rfl <;> rfl
theorem nF {B:Bs} {K:Fz} {β:Bt} {w:World} {l:List Value} {fr:List GV} {A C:List Ob} {p:Src} {x y u:Operand} {E k:Nat} {rows:List (List GV)} {h z:Value} (hI:Inv B K β (A++(.vech E k rows h::C)) w) (hF:FR K β fr l) (hx:aM fr x=.agg (ak p)) (hy:aM fr y=.v z) (hu:aM fr u=.v h) :
  ∃ K1,jj K1 w/\eW K1 (fun _=>.no) w/\aU K1 (fun _=>.no) ([x,y,u].map (ev l)) [.agg (ak p),.v z,.sl k rows]:=by
 obtain ⟨K1,hk,h1,h2,h3⟩:=hI.view (i:=A.length) (E:=E) (k:=k) (rows:=rows) (x:=h) (by rw [getElem?_append_right (Nat.le_refl _),Nat.sub_self];rfl);have hr:=hF.ev x;rw [hx] at hr;refine ⟨K1,h1,h2,?_⟩;show aU K1 _ [ev l x,ev l y,ev l u] _;rw [hF.gU hy,hF.gU hu];exact .cons (Sj hk (I2 p) hr) (.cons (.v _) (.cons h3 .nil))
theorem RH (p:Src) (a:Nat) (n:Nd) (l:List T) (ls:List ae) (c:CS) (E1 E5 E6:TypeId) (ad:Option Addr) (cp:Nat) (bq:df p.nodes a (.mk n l)) (iz:p.fns.length<=1099511627776) (jg:p.arrays.length<=1099511627776) (fa:p.globals.length<=1099511627776) (eA:ls.length<=1099511627776) :
  GF Tryz.prog 123 [.v (ii (a:Nat)),.v (.slice ad ls.length cp),.loc 0 0,.loc 1 0,.box (ak p) 0,.loc 2 0] [.box E1 [.v (ii c.code)],.box E5 [.v (ii c.skip)],.box E6 [.v (ii c.place)],.vech 9 1 (aX ls) (.slice ad ls.length cp)] (.tup [])
   [.box E1 [.v (ii (b8 p c a (.mk n l) ls).code)],.box E5 [.v (ii (b8 p c a (.mk n l) ls).skip)],.box E6 [.v (ii (b8 p c a (.mk n l) ls).place)],.vech 9 1 (aX ls) (.slice ad ls.length cp)]:=by
 have hs:=HO bq;have hN:=GD p a n l ls bq iz jg fa eA;rw [df] at bq;obtain ⟨hn,hk,rj⟩:=bq;have hS:=A3 p a n hn;have hr:=fV hn;obtain ⟨code,place,skip⟩:=c;unfold b8;rw [hs];simp only;generalize bp p (.mk n l) ls=z at *
 cases h1:(code != 0) with
 | true =>
  rw [if_pos (.inl (by simpa using h1))];refine ah Tryz.func123 Tryz.ntmps123 ?_;exact fm
 | false =>
  cases h2:(((a:Nat):Int)==skip) with
  | true =>
   rw [if_pos (.inr (by simpa using h2))];refine ah Tryz.func123 Tryz.ntmps123 ?_;exact fm
  | false =>
   rw [if_neg (by rintro (h | h);(· simp at h1;exact h h1);(· simp at h2;exact h2 h))];simp only
   cases hz:tV n with
   | false =>
    rw [hz] at hS;rw [if_neg (show ¬ (false=true) by decide)];unfold au at hr
    cases h3:(z != 0) with
    | true =>
     rw [if_pos (by simpa using h3)];refine ah Tryz.func123 Tryz.ntmps123 ?_;refine U [] (hS) ?_;refine GL.borrow hN (fun B K β w l hI hF=>nF (A:=[_,_,_]) (C:=[]) hI hF rfl rfl rfl) ?_;refine bZ ?_;exact eu
    | false =>
     rw [if_neg (by simpa using h3)];refine ah Tryz.func123 Tryz.ntmps123 ?_;refine U [] (hS) ?_;refine GL.borrow hN (fun B K β w l hI hF=>nF (A:=[_,_,_]) (C:=[]) hI hF rfl rfl rfl) ?_;refine bZ ?_;exact eu
   | true =>
    rw [hz] at hS;rw [if_pos rfl]
    have fb:l.length=1:=by
     unfold tV at hz;simp only [Bool.and_eq_true,beq_iff_eq] at hz;rw [hk,cQ] at hz;omega
    obtain ⟨u,rfl⟩:∃ u,l=[u]:=by
     match l,fb with
     | [u],_=>exact ⟨u,rfl⟩
    have hm:p.nodes[a+1]?=some u.n:=by
     rw [dh] at rj;have:=rj.1
     cases u;rw [df] at this;exact this.1
    have zb:n.kids[0]?=some (((a+1:Nat)):Int):=by rw [hk];rfl
    have ri:=mq zb;have gD:=fV hm;rw [show lU (.mk n [u])=u.n from rfl];generalize u.n=m at *;unfold au at hr gD
    cases h4:(m.kind != 2) with
    | true =>
     rw [if_pos (show m.kind≠2 by simpa using h4)]
     cases h3:(z != 0) with
     | true =>
      rw [if_pos (by simpa using h3)];refine ah Tryz.func123 Tryz.ntmps123 ?_;refine U [] (hS) ?_;refine GL.borrow hN (fun B K β w l hI hF=>nF (A:=[_,_,_]) (C:=[]) hI hF rfl rfl rfl) ?_;refine bZ ?_;exact eu
     | false =>
      rw [if_neg (by simpa using h3)];refine ah Tryz.func123 Tryz.ntmps123 ?_;refine U [] (hS) ?_;refine GL.borrow hN (fun B K β w l hI hF=>nF (A:=[_,_,_]) (C:=[]) hI hF rfl rfl rfl) ?_;refine bZ ?_;exact eu
    | false =>
     rw [if_neg (show ¬ (m.kind≠2) by simpa using h4)]
     cases h3:(z != 0) with
     | true =>
      rw [if_pos (by simpa using h3)];refine ah Tryz.func123 Tryz.ntmps123 ?_;refine U [] (hS) ?_;refine GL.borrow hN (fun B K β w l hI hF=>nF (A:=[_,_,_]) (C:=[]) hI hF rfl rfl rfl) ?_;refine bZ ?_;exact eu
     | false =>
      rw [if_neg (by simpa using h3)];refine ah Tryz.func123 Tryz.ntmps123 ?_;refine U [] (hS) ?_;refine GL.borrow hN (fun B K β w l hI hF=>nF (A:=[_,_,_]) (C:=[]) hI hF rfl rfl rfl) ?_;refine bZ ?_;exact eu
end Go.Xg
namespace Go.Xg
open Go.RowKit Go.Xw Go.Proofs
open Go.Xp (Nd T Ar aB aw cQ)
open Go.Sp (Src)
open Go.Im
attribute [local irreducible] GW GL GO YG GC GA aQ aR
def It (p:Src):GV:=.fn (.func 123) [] [.loc 0 0,.loc 1 0,.box (ak p) 0,.loc 2 0]
def Qg (p:Src):GV:=.fn (.func 84) [] [.loc 3 0,.loc 4 0,.box (ak p) 0,.loc 5 0]
def De (p:Src) (E1 E5 E6 E2 E3 E4:TypeId) (s:CS) (ls:List ae) (ad:Option Addr) (cp:Nat):List Ob :=
 [.box E1 [.v (ii s.code)],.box E5 [.v (ii s.skip)],.box E6 [.v (ii s.place)],.box E2 [It p],.box E3 [.v (.slice ad ls.length cp)],.box E4 [Qg p],.vech 9 1 (aX ls) (.slice ad ls.length cp)]
theorem O9 (p:Src) (E1 E5 E6 E2 E3 E4:TypeId) (hp:p.nodes.length<=1048576) (ef:∀ n∈p.nodes,n.kids.length<=1099511627776) (iz:p.fns.length<=1099511627776) (jg:p.arrays.length<=1099511627776) (fa:p.globals.length<=1099511627776):∀ (N:Nat) (t:T),aB t<=N->∀ (a:Nat) (s:CS) (ls:List ae) (ad:Option Addr) (cp:Nat),df p.nodes a t->ls.length+aB t<=8388608 ->
  GC Tryz.prog 84 [.v (ii (a:Nat)),.loc 3 0,.loc 4 0,.box (ak p) 0,.loc 5 0] (De p E1 E5 E6 E2 E3 E4 s ls ad cp) fun g Δ=>g=.tup []/\∃ gR gT,Δ=De p E1 E5 E6 E2 E3 E4 (eR (b8 p) t a s ls).1 (eR (b8 p) t a s ls).2 gR gT:=by
 intro N
 induction N with
 | zero=>intro t h;have:=gO t;omega
 | succ N ih =>
 intro t hN a s ls ad cp bq eA
 cases t with
 | mk n l =>
 rw [Go.Xp.aB] at hN eA;have NY:=bq;rw [df] at bq;obtain ⟨hn,hk,rj⟩:=bq;rw [eR];have hr:=fV hn;have nf:=ef n (mem_of_getElem? hn);have ht:=RH p a n l ls s E1 E5 E6 ad cp NY iz jg fa (by omega);generalize eL:(b8 p) s a (.mk n l) ls=s1 at *
 have pz:n.kids.length=l.length:=by rw [hk,cQ]
 unfold au at hr;unfold De It Qg;refine ah Tryz.func84 Tryz.ntmps84 ?_;refine GL.nG [0,1,2,6] ht rfl rfl rfl (by repeat (first | exact trivial | refine ⟨rfl,?_⟩)) ?_;rintro _ _ ⟨rfl,rfl⟩;refine cU ?_;refine ab ?_;refine GW.range (n.kids.map fun i=>[GV.v (ii i)]).length (fun k fr Γ=>∃ gR gT,fr=[.v (ii (a:Nat)),.loc 3 0,.loc 4 0,.box (ak p) 0,.loc 5 0,.any,.any,.any,.any,.any,.any,.any,.any,.any,.any,.any,.any,ints n.kids,.v (ii ((n.kids.map fun i=>[GV.v (ii i)]).length:Int)),.v (ii (k:Nat)),.any,.any,.any,.any,.any,.any,.any,.any,.any,.any,.any,.any,.any,.any,.any,.any,.any,.any,.any,.any,.any,.any,.any]/\Γ=De p E1 E5 E6 E2 E3 E4 (bU (b8 p) (l.take k) (a+1) s1 ls).1 (bU (b8 p) (l.take k) (a+1) s1 ls).2 gR gT) ?_ (by rw [length_map];omega) ?_ ?_ ?_
 ·exact ⟨_,_,Wk.av aj,ad,cp,rfl,rfl⟩
 ·rintro k _ _ ⟨ad,cp,rfl,rfl⟩;exact ⟨rfl,rfl,rfl⟩
 ·rintro k _ _ ao ⟨ad,cp,rfl,rfl⟩;rw [length_map,pz] at ao;obtain ⟨u,hu⟩:∃ u,l[k]?=some u:=⟨l[k],by simp [ao]⟩;have iC:=rm (n:=a+1) hu;rw [<-hk] at iC;have tS:=mq iC;have b6:=jd hu;have EL:df p.nodes (a+1+aw (l.take k)) u:=dh.ix l (a+1) k u rj hu
  have hlen:(bU (b8 p) (l.take k) (a+1) s1 ls).2.length<=ls.length+aw (l.take k):=by
   rw [kJ,length_append];have:=gY (l.take k);omega
  rw [vV _ hu];generalize (bU (b8 p) (l.take k) (a+1) s1 ls).1=s2 at *;generalize (bU (b8 p) (l.take k) (a+1) s1 ls).2=ls2 at *;have hv:=ih u (by omega) (a+1+aw (l.take k)) s2 ls2 ad cp EL (by omega);unfold De It Qg at hv |-;refine ab ?_;refine GL.nG [0,1,2,3,4,5,6] hv rfl rfl rfl (by repeat (first | exact trivial | refine ⟨rfl,?_⟩)) ?_;rintro _ _ ⟨rfl,gR,gT,rfl⟩;refine cU ?_;refine ab ?_;exact ⟨rfl,rfl,_,_,Wk.av aj,gR,gT,rfl,rfl⟩
 ·rintro _ _ ⟨ad,cp,rfl,rfl⟩;rw [length_map,pz,take_length]
  have hlen:(bU (b8 p) l (a+1) s1 ls).2.length<=ls.length+aw l:=by
   rw [kJ,length_append];have:=gY l;omega
  generalize (bU (b8 p) l (a+1) s1 ls).1=s2 at *;generalize (bU (b8 p) l (a+1) s1 ls).2=ls2 at *;have Ex:(aX ls2).length=ls2.length:=kc ls2;unfold De It Qg;refine aJ ?_
  cases hv:(n.kind==13) with
  | false =>
   rw [if_neg (by simpa using hv)];refine ab ?_;refine cl ?_;exact ⟨rfl,ad,cp,rfl⟩
  | true =>
   rw [if_pos (by simpa using hv)];refine ab ?_;refine GW.draw (.q 0 (.q 1 (.q 2 (.q 3 (.q 4 (.q 5 (.q 6 (.a 7 (.a 8 (.a 9 .nil)))))))))) (by kernel_rfl) (by kernel_rfl) ?_;refine ai ?_;refine dk ?_;refine ai ?_;refine OA rfl rfl (GL.nW 6 (news:=[[.v (sv n.s)]]) rfl rfl rfl (by first | rfl | assumption) rfl rfl (by refine ⟨?_,?_⟩;(· show _+1<=_;omega);(· show (_+1) * _<=_;omega)) ?_);intro mU mW;refine c8 ?_;refine ai ?_;refine ab ?_;refine cl ?_;exact ⟨rfl,mU,mW,by simp [aX]⟩
theorem QE (p:Src) (E1 E5 E6:TypeId) (i:Nat) (f:Go.Sp.Fn) (t:T) (s:CS) (hp:p.nodes.length<=1048576) (ef:∀ n∈p.nodes,n.kids.length<=1099511627776) (iz:p.fns.length<=1099511627776) (jg:p.arrays.length<=1099511627776) (fa:p.globals.length<=1099511627776)
  (hf:p.fns[i]?=some f) (nj:f.params.length<=1048576) (hb:0<=f.body) (bq:df p.nodes f.body.toNat t) (b6:aB t<=1048576) :
  GF Tryz.prog 65 [.agg (ak p),.v (ii (i:Nat)),It p] [.box E1 [.v (ii s.code)],.box E5 [.v (ii s.skip)],.box E6 [.v (ii s.place)]] (.tup []) [.box E1 [.v (ii (eR (b8 p) t f.body.toNat s f.params).1.code)],.box E5 [.v (ii (eR (b8 p) t f.body.toNat s f.params).1.skip)],.box E6 [.v (ii (eR (b8 p) t f.body.toNat s f.params).1.place)]]:=by
 have hr:(p.fns.map aq)[i]?=some (aq f):=by rw [getElem?_map,hf];rfl
 have ct:(f.params.map fun s=>[GV.v (sv s)]).length=f.params.length:=by simp
 have eH:=oI f.params;obtain ⟨b,ra⟩:∃ b:Nat,f.body=(b:Int):=⟨f.body.toNat,by omega⟩;rw [ra,Int.toNat_natCast] at bq |-;unfold aq at hr;rw [ra] at hr;unfold It;refine cM Tryz.func65 Tryz.ntmps65 ?_;refine gP ?_;refine GL.wk (Wk.freeze (i:=3) rfl rfl rfl (Nat.le_refl _)) ?_;refine GN (by simp only [mx,lS];rfl) ?_;refine GL.wk (Wk.av (bM:=[.any,.v (ii (i:Nat)),.any,.box (ak p) 0,.any,.loc 4 0,.any,.any,.any,.any,.any,.any,.any,strs f.params,.any,.any,.any,.any,.any,.any,.any,.any,.any,.any]) aj) ?_;refine GL.wk (Wk.lY 9 1) ?_;refine GL.yb 5 rfl rfl rfl rfl eH (by refine ⟨?_,?_⟩;(· rw [ct];omega);(· rw [ct];omega)) ?_;intro ad cp;rw [ct];refine bZ ?_;simp only [nil_append,length_nil,Nat.zero_add];refine ab ?_;refine GW.D5 (bM:=[.any,.v (ii (i:Nat)),.any,.box (ak p) 0,.any,.loc 4 0,.loc 6 0,.loc 7 0,.any,.any,.any,.any,.any,.any,.any,.any,.any,.any,.any,.any,.any,.any,.any,.any]) (aD:=[.box E1 [.v (ii s.code)],.box E5 [.v (ii s.skip)],.box E6 [.v (ii s.place)],.gone,.box _ [.fn (.func 123) [] [.loc 0 0,.loc 1 0,.box (ak p) 0,.loc 2 0]],.vech 9 1 (aX f.params) (.slice ad f.params.length cp),.box _ [.v (.slice ad f.params.length cp)],.box _ [.fn (.func 84) [] [.loc 4 0,.loc 6 0,.box (ak p) 0,.loc 7 0]]]) aj rfl ?_;refine GW.draw (.q 0 (.q 1 (.q 2 (.q 3 (.q 4 (.q 5 (.q 6 (.a 7 .nil)))))))) (by kernel_rfl) (by kernel_rfl) ?_;refine ai ?_;have hv:=O9 p E1 E5 E6;refine OA rfl rfl (GL.nG [0,1,2,4,6,7,5] (hv _ _ _ hp ef iz jg fa _ t (Nat.le_refl _) b s f.params ad cp bq (by omega)) rfl rfl rfl (by repeat (first | exact trivial | refine ⟨rfl,?_⟩)) ?_);rintro _ _ ⟨rfl,gR,gT,rfl⟩;refine ⟨by simp [De],?_⟩;unfold De;refine c8 ?_;refine ai ?_;exact eu
end Go.Xg
namespace Go.Im
open Go.Xp Go.Sp
theorem He {l:List ae}:ur l=false↔∀ k,k < l.length->nH l k=false:=by
 unfold ur;rw [any_eq_false];constructor
 ·intro h k hk;have:=h k (List.mem_range.2 hk);simpa using this
 ·intro h k hk;rw [h k (List.mem_range.1 hk)];decide
end Go.Im
namespace Go.Xg
open Go.RowKit Go.Xw Go.Proofs
open Go.Xp (Nd T Ar aB aw cQ)
open Go.Sp (Src)
open Go.Im
theorem YG.DF {P:Program} {fr:List GV} {Γ:List Ob} {x up:Operand} {t e:TypeId} {k:Nat} [hT:mF P t e k] {rows:List (List GV)} {kk:IntKind} {i:Nat} (hx:aM fr x=.sl k rows) (Y0:aM fr up=.v (.int kk i)) (hi:i < rows.length):YG P (.slice t x none (some up) none) fr Γ (.sl k (rows.take i)):=fun B K β w l hI hF=>by
 have h:=hF.ev x;rw [hx] at h;have HA:=hF.gU Y0;generalize hv:ev l x=v at h
 cases h with
 | sl0 a c=>simp at hi
 | sl b o c _ _ h hc =>
  refine ⟨.slice (some ⟨b,o,none⟩) i c,fun d ty pos af=>?_,?_⟩
  ·have nR:¬ (c=0):=by omega
   have hle:(i:Int)<=(c:Int):=by omega
   have zP:i<=c:=by omega
   simp [execOp,Instr.sliceAt,Instr.slice,Instr.sliceBounds,Instr.sliceBound,asIntOf,hv,HA,run_underlying hT.und,iH hT.siz,nR,hle,zP,pb]
  ·have:=Rel.sl (K:=K) (β:=β) b o c k (rows.take i) (fun j r hr=>?_) (by simp;omega)
   ·rw [length_take,Nat.min_eq_left (Nat.le_of_lt hi)] at this;exact this
   ·have hj:j < i:=by
     rcases Nat.lt_or_ge j i with h1 | h1
     ·exact h1
     ·rw [List.getElem?_eq_none (by rw [length_take];omega)] at hr;cases hr
    rw [List.getElem?_take,if_pos hj] at hr;exact h j r hr
attribute [local irreducible] GW GL GO YG GC GA aQ aR
theorem K7 (p:Src) (i:Nat) (f:Go.Sp.Fn) (t:T) (hp:p.nodes.length<=1048576) (ef:∀ n∈p.nodes,n.kids.length<=1099511627776) (iz:p.fns.length<=1099511627776) (jg:p.arrays.length<=1099511627776) (fa:p.globals.length<=1099511627776)
  (hf:p.fns[i]?=some f) (nj:f.params.length<=1048576) (hb:0<=f.body) (bq:df p.nodes f.body.toNat t) (b6:aB t<=1048576) :
  GF Tryz.prog 98 [.agg (ak p),.v (ii (i:Nat))] [] (.tup [.v (ii (fi p f t f.body.toNat).1),.v (ii (fi p f t f.body.toNat).2)]) []:=by
 have hr:(p.fns.map aq)[i]?=some (aq f):=by rw [getElem?_map,hf];rfl
 have dw:(f.params.map fun s=>[GV.v (sv s)]).length=f.params.length:=by simp
 have hE:=QE p 3 3 3 i f t ⟨0,0,-1⟩ hp ef iz jg fa hf nj hb bq b6;unfold aq at hr;unfold fi;refine ah Tryz.func98 Tryz.ntmps98 ?_;refine GW.range (f.params.map fun s=>[GV.v (sv s)]).length (fun k fr Γ=>fr=[.any,.v (ii (i:Nat)),.loc 0 0,.any,.any,.any,strs f.params,.any,.any,.any,.any,.any,.any,.any,.any,.any,.any,.any,strs f.params,.v (ii ((f.params.map fun s=>[GV.v (sv s)]).length:Int)),.v (ii (k:Nat)),.any,.any,.any,.any,.any,.any,.any,.any,.any,.any,.any,.any,.any,.any,.any,.any]/\Γ=[.box 34 (ak p)]/\∀ j,j < k->nH f.params j=false) ?_ (by omega) ?_ ?_ ?_
 ·exact ⟨_,_,Wk.av aj,rfl,rfl,fun j hj=>absurd hj (Nat.not_lt_zero _)⟩
 ·rintro k _ _ ⟨rfl,rfl,_⟩;exact ⟨rfl,rfl,rfl⟩
 ·rintro k _ _ ao ⟨rfl,rfl,aK⟩;have my:=ao;rw [dw] at ao;obtain ⟨x,hx⟩:∃ x,f.params[k]?=some x:=⟨f.params[k],by simp [ao]⟩
  have HF:(f.params.map fun s=>[GV.v (sv s)])[k]?=some [.v (sv x)]:=by rw [getElem?_map,hx];rfl
  have hC:=gz (f.params.take k) x (by rw [length_take];omega)
  have hd:nH f.params k=(f.params.take k).contains x:=by unfold nH;rw [hx]
  rw [<-hd] at hC;unfold strs at hC;rw [map_take] at hC
  cases eG:nH f.params k with
  | true =>
   rw [eG] at hC
   have SM:ur f.params=true:=by
    cases h:ur f.params with
    | true=>rfl
    | false=>rw [He.1 h k ao] at eG;cases eG
   rw [if_pos SM];refine ab ?_;refine GL.q (YG.DF rfl rfl my) ?_;refine bZ ?_;refine ab ?_;refine U [] (hC) ?_;exact ew
  | false =>
   rw [eG] at hC;refine ab ?_;refine GL.q (YG.DF rfl rfl my) ?_;refine bZ ?_;refine ab ?_;refine U [] (hC) ?_
   exact ⟨rfl,rfl,_,_,Wk.av aj,rfl,rfl,fun j hj=>by
    rcases Nat.lt_succ_iff_lt_or_eq.1 hj with h | rfl
    ·exact aK j h
    ·exact eG⟩
 ·rintro _ _ ⟨rfl,rfl,aK⟩;rw [dw] at aK;rw [if_neg (by rw [He.2 aK];decide)];refine aJ ?_;refine GW.wk (Wk.freeze (i:=0) rfl rfl rfl (Nat.zero_le _)) ?_;refine GW.D5 (bM:=[.any,.v (ii (i:Nat)),.box (ak p) 0,.any,.any,.any,.any,.any,.any,.any,.any,.any,.any,.any,.any,.any,.any,.any,.any,.any,.any,.any,.any,.any,.any,.any,.any,.any,.any,.any,.any,.any,.any,.any,.any,.any,.any]) (aD:=[.gone]) aj rfl ?_;refine ab ?_;refine U [1,3,2] (hE) ?_;refine GW.draw (.q 0 (.q 1 (.q 2 (.q 3 .nil)))) (by kernel_rfl) (by kernel_rfl) ?_;refine ai ?_;exact l7
end Go.Xg
namespace Go.Im
open Go.Xp Go.Sp
theorem rN {l:List Ar} {k:Nat} {a:Ar} (h:l[k]?=some a):dC (l.take (k+1))=dC (l.take k)+a.size:=by
 unfold dC;rw [take_add_one,h,List.foldl_append];rfl
theorem uq {l:List Ar} (h:∀ a∈l,0<=a.size/\a.size<=2147483648):∀ k,0<=dC (l.take k)/\dC (l.take k)<=(k:Int) * 2147483648:=by
 intro k
 induction k with
 | zero=>simp [dC]
 | succ k ih =>
  cases hx:l[k]? with
  | none =>
   have:l.take (k+1)=l.take k:=by rw [take_add_one,hx];simp
   rw [this];omega
  | some a =>
   have:=h a (mem_of_getElem? hx);rw [rN hx];omega
end Go.Im
namespace Go.Xg
open Go.RowKit Go.Xw Go.Proofs
open Go.Xp (Nd T Ar aB aw)
open Go.Sp (Src)
open Go.Im
attribute [local irreducible] GW GL GO YG GC GA aQ aR
theorem MT (p:Src) (iz:p.fns.length<=1099511627776) (jg:p.arrays.length<=1048576) (b6:∀ a∈p.arrays,0<=a.size/\a.size<=2147483648):GF Tryz.prog 95 [.agg (ak p)] [] (.v (.bool (fX p))) []:=by
 have dw:(p.arrays.map ay).length=p.arrays.length:=by simp
 have gV:(p.fns.map aq).length=p.fns.length:=by simp
 have fa:(p.globals.map fun s=>[GV.v (sv s)]).length=p.globals.length:=by simp
 have hC:=tC (oN:=121) (fun x=>decide (x.params.length > 40)) p.fns iz (fun x _=>J3 x);unfold fX;generalize p.fns.any (fun x=>decide (x.params.length > 40))=b4 at *;have hb:=uq b6;refine ah Tryz.func95 Tryz.ntmps95 ?_;refine GW.range (p.arrays.map ay).length (fun k fr Γ=>fr=[.any,.loc 0 0,.any,.v (ii (dC (p.arrays.take k))),.any,.any,.any,.sl 2 (p.arrays.map ay),.v (ii ((p.arrays.map ay).length:Int)),.v (ii (k:Nat)),.any,.any,.any,.any,.any,.any,.any,.any,.any,.any,.any,.any,.any,.any,.any,.any,.any,.any,.any,.any,.any,.any,.any,.any,.any,.any,.any,.any,.any,.any]/\Γ=[.box 34 (ak p)]/\(p.arrays.take k).all (fun a=>!(a.size==0))=true) ?_ (by omega) ?_ ?_ ?_
 ·exact ⟨_,_,Wk.av aj,rfl,rfl,rfl⟩
 ·rintro k _ _ ⟨rfl,rfl,_⟩;exact ⟨rfl,rfl,rfl⟩
 ·rintro k _ _ ao ⟨rfl,rfl,aK⟩;rw [dw] at ao;obtain ⟨x,hx⟩:∃ x,p.arrays[k]?=some x:=⟨p.arrays[k],by simp [ao]⟩
  have hr:(p.arrays.map ay)[k]?=some (ay x):=by rw [getElem?_map,hx];rfl
  have bm:=lN (f:=fun a:Ar=>a.size==0) hx;have lH:=rN hx;have ej:=hb k;have rL:=b6 x (mem_of_getElem? hx);unfold ay at hr
  cases h1:(x.size==0) with
  | true =>
   have:p.arrays.any (fun a=>a.size==0)=true:=List.any_eq_true.2 ⟨x,mem_of_getElem? hx,h1⟩;rw [this];exact ar
  | false =>
   rw [lH];generalize dC (p.arrays.take k)=c at *;refine ab ?_;exact ⟨rfl,rfl,_,_,(Wk.cut (n:=1) (Nat.zero_le _) rfl).trans (Wk.av aj),rfl,rfl,by rw [bm,aK,h1];rfl⟩
 ·rintro _ _ ⟨rfl,rfl,aK⟩;rw [dw,take_length] at aK |-
  have:p.arrays.any (fun a=>a.size==0)=false:=by
   rw [any_eq_false];rw [List.all_eq_true] at aK;intro x hx;simpa using aK x hx
  rw [this];have e1:decide (p.fns.length > 40)=decide ((40:Int) < ((p.fns.map aq).length:Int)):=decide_eq_decide.2 (by rw [gV];omega);have e2:decide (p.globals.length > 29)=decide ((29:Int) < ((p.globals.map fun s=>[GV.v (sv s)]).length:Int)):=decide_eq_decide.2 (by rw [fa];omega);have e3:decide (dC p.arrays > 8000)=decide ((8000:Int) < dC p.arrays):=rfl;rw [e1,e2,e3];generalize dC p.arrays=c at *;refine aJ ?_
  cases h1:decide ((40:Int) < ((p.fns.map aq).length:Int))
  all_goals cases h2:decide ((29:Int) < ((p.globals.map fun s=>[GV.v (sv s)]).length:Int))
  all_goals cases h3:decide ((8000:Int) < c)
  all_goals
   refine ab ?_
   first
    | (refine bI ?_;exact ⟨rfl,rfl⟩)
    | (refine gm [] (hC) ?_;refine ab ?_;refine bI ?_;exact ⟨rfl,rfl⟩)
end Go.Xg
namespace Go.Im
open Go.Xp Go.Sp
theorem BC {l:List ae}:dV l=false↔∀ k,k < l.length->jZ l k=false:=by
 unfold dV;rw [any_eq_false];constructor
 ·intro h k hk;have:=h k (List.mem_range.2 hk);simpa using this
 ·intro h k hk;rw [h k (List.mem_range.1 hk)];decide
theorem Ec (p:Src) (l:List T) (a:Nat):fj p [] l a=(0,0):=by unfold fj;rfl
end Go.Im
namespace Go.Xg
open Go.RowKit Go.Xw Go.Proofs
open Go.Xp (Nd T Ar aB aw)
open Go.Sp (Src)
open Go.Im
attribute [local irreducible] GW GL GO YG GC GA aQ aR
theorem J9 (p:Src) (hF:GF Tryz.prog 92 [.agg (ak p)] [] (.v (.bool false)) []):GF Tryz.prog 72 [.agg (ak p)] [] (.tup [.v (ii 20),.v (ii 0)]) []:=by
 refine ah Tryz.func72 Tryz.ntmps72 ?_;refine U [] (hF) ?_;exact ew
theorem IB (p:Src) (l:List T) (ns:List ae) (AR:ns.length<=8388608) (gV:p.fns.length=l.length) (iz:p.fns.length<=1048576)
  (hF:GF Tryz.prog 92 [.agg (ak p)] [] (.v (.bool true)) [])
  (hA:GC Tryz.prog 93 [.agg (ak p)] [] fun g Δ=>∃ a c,g=.v (.slice a ns.length c)/\Δ=[.vech 9 1 (aX ns) (.slice a ns.length c)])
  (hT:GF Tryz.prog 95 [.agg (ak p)] [] (.v (.bool (fX p))) [])
  (hq:∀ i f t,p.fns[i]?=some f->l[i]?=some t->GF Tryz.prog 98 [.agg (ak p),.v (ii (i:Nat))] [] (.tup [.v (ii (fi p f t (aw (l.take i))).1),.v (ii (fi p f t (aw (l.take i))).2)]) []) :
  GF Tryz.prog 72 [.agg (ak p)] []
   (.tup [.v (ii (if dV ns=true then ((21,0):Int × Int) else if fX p=true then (26,0) else if p.fns.any mf=false then (25,0) else fj p p.fns l 0).1),.v (ii (if dV ns=true then ((21,0):Int × Int) else if fX p=true then (26,0) else if p.fns.any mf=false then (25,0) else fj p p.fns l 0).2)]) []:=by
 have dw:(ns.map fun s=>[GV.v (sv s)]).length=ns.length:=by simp
 have Hz:(p.fns.map aq).length=p.fns.length:=by simp
 have hM:=tC (oN:=97) mf p.fns (by omega) (fun x _=>Nc x);generalize fX p=tm at *;refine ah Tryz.func72 Tryz.ntmps72 ?_;refine U [] (hF) ?_;refine b9 [] (hA) ?_;rintro _ _ ⟨ad,cp,rfl,rfl⟩;refine cU ?_;refine GL.wk (Wk.pN (t:=14) (i:=1) rfl rfl rfl) ?_;refine GL.wk (Wk.cut (n:=1) (Nat.zero_le _) rfl) ?_;refine GL.wk (Wk.av (bM:=[.any,.loc 0 0,.any,.any,.any,.any,.any,.any,.any,.any,.any,.any,.any,.any,strs ns,.any,.any,.any,.any,.any,.any,.any,.any,.any,.any,.any,.any,.any,.any,.any,.any,.any,.any,.any,.any,.any,.any,.any,.any,.any,.any,.any,.any,.any,.any,.any,.any,.any,.any,.any,.any,.any,.any,.any,.any]) aj) ?_;refine bZ ?_;refine ab ?_;refine GW.range (ns.map fun s=>[GV.v (sv s)]).length (fun k fr Γ=>fr=[.any,.loc 0 0,.any,.any,strs ns,.any,.any,.any,.any,.any,.any,.any,.any,.any,.any,strs ns,.v (ii ((ns.map fun s=>[GV.v (sv s)]).length:Int)),.v (ii (k:Nat)),.any,.any,.any,.any,.any,.any,.any,.any,.any,.any,.any,.any,.any,.any,.any,.any,.any,.any,.any,.any,.any,.any,.any,.any,.any,.any,.any,.any,.any,.any,.any,.any,.any,.any,.any,.any,.any]/\Γ=[.box 34 (ak p)]/\∀ j,j < k->jZ ns j=false) ?_ (by omega) ?_ ?_ ?_
 ·exact ⟨_,_,Wk.av aj,rfl,rfl,fun j hj=>absurd hj (Nat.not_lt_zero _)⟩
 ·rintro k _ _ ⟨rfl,rfl,_⟩;exact ⟨rfl,rfl,rfl⟩
 ·rintro k _ _ ao ⟨rfl,rfl,aK⟩;have my:=ao;rw [dw] at ao;obtain ⟨x,hx⟩:∃ x,ns[k]?=some x:=⟨ns[k],by simp [ao]⟩
  have HF:(ns.map fun s=>[GV.v (sv s)])[k]?=some [.v (sv x)]:=by rw [getElem?_map,hx];rfl
  have hR:=LZ x;have hC:=gz (ns.take k) x (by rw [length_take];omega)
  have hd:jZ ns k=(lT x || (ns.take k).contains x):=by unfold jZ;rw [hx]
  unfold strs at hC;rw [map_take] at hC
  cases h1:lT x with
  | true =>
   rw [h1] at hR hd
   have ra:dV ns=true:=by
    cases h:dV ns with
    | true=>rfl
    | false=>rw [BC.1 h k ao] at hd;simp at hd
   rw [if_pos ra];refine ab ?_;refine U [] (hR) ?_;exact ew
  | false =>
   rw [h1] at hR hd
   cases eG:(ns.take k).contains x with
   | true =>
    rw [eG] at hC hd
    have ra:dV ns=true:=by
     cases h:dV ns with
     | true=>rfl
     | false=>rw [BC.1 h k ao] at hd;simp at hd
    rw [if_pos ra];refine ab ?_;refine U [] (hR) ?_;refine GL.q (YG.DF rfl rfl my) ?_;refine bZ ?_;refine ab ?_;refine U [] (hC) ?_;exact ew
   | false =>
    rw [eG] at hC hd;refine ab ?_;refine U [] (hR) ?_;refine GL.q (YG.DF rfl rfl my) ?_;refine bZ ?_;refine ab ?_;refine U [] (hC) ?_
    exact ⟨rfl,rfl,_,_,Wk.av aj,rfl,rfl,fun j hj=>by
     rcases Nat.lt_succ_iff_lt_or_eq.1 hj with h | rfl
     ·exact aK j h
     ·exact hd⟩
 ·rintro _ _ ⟨rfl,rfl,aK⟩;rw [dw] at aK;rw [if_neg (show ¬ dV ns=true by rw [BC.2 aK];decide)];refine aJ ?_
  cases tm with
  | true =>
   rw [if_pos rfl];refine ab ?_;refine U [] (hT) ?_;exact ew
  | false =>
   rw [if_neg (by decide)]
   cases hmn:p.fns.any mf with
   | false =>
    rw [hmn] at hM;rw [if_pos rfl];refine ab ?_;refine U [] (hT) ?_;refine U [] (hM) ?_;exact ew
   | true =>
    rw [hmn] at hM;rw [if_neg (by decide)];refine ab ?_;refine U [] (hT) ?_;refine U [] (hM) ?_;refine GW.range (p.fns.map aq).length (fun k fr Γ=>fr=[.any,.loc 0 0,.any,.any,.any,.any,.any,.any,.any,.any,.any,.any,.any,.any,.any,.any,.any,.any,.any,.any,.any,.any,.any,.any,.any,.any,.any,.any,.any,.any,.any,.any,.any,.any,.any,.any,.any,.any,.any,.sl 3 (p.fns.map aq),.v (ii ((p.fns.map aq).length:Int)),.v (ii (k:Nat)),.any,.any,.any,.any,.any,.any,.any,.any,.any,.any,.any,.any,.any]/\Γ=[.box 34 (ak p)]/\fj p p.fns l 0=fj p (p.fns.drop k) (l.drop k) (aw (l.take k))) ?_ (by omega) ?_ ?_ ?_
    ·exact ⟨_,_,Wk.av aj,rfl,rfl,by rw [List.drop_zero,List.drop_zero,List.take_zero,aw]⟩
    ·rintro k _ _ ⟨rfl,rfl,_⟩;exact ⟨rfl,rfl,rfl⟩
    ·rintro k _ _ ao ⟨rfl,rfl,he⟩;rw [Hz] at ao;obtain ⟨f,hf⟩:∃ f,p.fns[k]?=some f:=⟨p.fns[k],by simp [ao]⟩;obtain ⟨t,ht⟩:∃ t,l[k]?=some t:=⟨l[k]'(by omega),getElem?_eq_getElem _⟩;have hQ:=hq k f t hf ht
     have Lw:p.fns.drop k=f::p.fns.drop (k+1):=by rw [List.drop_eq_getElem_cons ao];rw [getElem?_eq_getElem ao] at hf;rw [Option.some.inj hf]
     have dq:l.drop k=t::l.drop (k+1):=by rw [List.drop_eq_getElem_cons (by omega)];rw [getElem?_eq_getElem (by omega)] at ht;rw [Option.some.inj ht]
     rw [Lw,dq,fj,<-OW ht] at he
     cases h1:((fi p f t (aw (l.take k))).1 != 0) with
     | true =>
      rw [if_pos (by simpa using h1)] at he;rw [he];generalize fi p f t (aw (l.take k))=r at *;refine ab ?_;refine U [] (hQ) ?_;exact ew
     | false =>
      rw [if_neg (by simpa using h1)] at he;generalize fi p f t (aw (l.take k))=r at *;refine ab ?_;refine U [] (hQ) ?_;exact ⟨rfl,rfl,_,_,Wk.av aj,rfl,rfl,he⟩
    ·rintro _ _ ⟨rfl,rfl,he⟩;rw [Hz,List.drop_length,Ec] at he;rw [he];refine aJ ?_;exact l7
theorem Lk (p:Src) (c z:Int) (h:GF Tryz.prog 72 [.agg (ak p)] [] (.tup [.v (ii c),.v (ii z)]) []):GF Tryz.prog 43 [.agg (ak p)] [] (.v (.bool (c==0))) []:=by
 refine ah Tryz.func43 Tryz.ntmps43 ?_;refine U [] (h) ?_;exact al
end Go.Xg
namespace Go.Xg
open Go.RowKit Go.Xw Go.Proofs
open Go.Xp (Nd T Ar aB aw)
open Go.Sp (Src)
open Go.Im
attribute [local irreducible] GW GL GO YG GC GA aQ aR
theorem QW (p:Src) (fn:Int) (w g:Bool) (iz:p.fns.length<=1048576) (hg:GF Tryz.prog 43 [.agg (ak p)] [] (.v (.bool g)) [])
  (hW:GF Tryz.prog 83 [.v (ii fn),.v (ii 0),.v (ii (((p.fns.map aq).length:Int) - 1))] [] (.v (.bool w)) []):GF Tryz.prog 64 [.agg (ak p),.v (ii fn)] [] (.v (.bool (w&&g))) []:=by
 have Hz:(p.fns.map aq).length=p.fns.length:=by simp
 cases w with
 | false =>
  refine ah Tryz.func64 Tryz.ntmps64 ?_;refine U [] (hW) ?_;exact al
 | true =>
  refine ah Tryz.func64 Tryz.ntmps64 ?_;refine U [] (hW) ?_;refine U [] (hg) ?_;exact al
theorem Dv (p:Src) (fn:Int) (name:ae) (ks:List Int) (hH:GF Tryz.prog 64 [.agg (ak p),.v (ii fn)] [] (.v (.bool false)) []) :
  GF Tryz.prog 36 [.agg (ak p),.v (ii fn),.v (sv name),ints ks] [] (.v (ii (-1))) []:=by
 refine ah Tryz.func36 Tryz.ntmps36 ?_;refine U [] (hH) ?_;exact al
theorem BJ (p:Src) (i:Nat) (name:ae) (ks:List Int) (f:Go.Sp.Fn) (t:T) (hH:GF Tryz.prog 64 [.agg (ak p),.v (ii (i:Nat))] [] (.v (.bool true)) [])
  (hp:p.nodes.length<=1048576) (ef:∀ n∈p.nodes,n.kids.length<=1099511627776) (oR:ks.length<=1099511627776)
  (hf:p.fns[i]?=some f) (nj:f.params.length<=1048576) (hb:0<=f.body) (bq:df p.nodes f.body.toNat t) (b6:aB t<=1048576) :
  GF Tryz.prog 36 [.agg (ak p),.v (ii (i:Nat)),.v (sv name),ints ks] [] (.v (ii ((jl (ft name ks) t f.params:Nat):Int))) []:=by
 have hE:=QH p name ks 3 i f t hp ef oR hf nj hb bq b6;unfold FT at hE;refine ah Tryz.func36 Tryz.ntmps36 ?_;refine gm [] (hH) ?_;refine GL.wk (Wk.freeze (i:=0) rfl rfl rfl (Nat.zero_le _)) ?_;refine GL.wk (Wk.freeze (i:=1) rfl rfl rfl (Nat.zero_le _)) ?_;refine GL.wk (Wk.freeze (i:=2) rfl rfl rfl (Nat.zero_le _)) ?_;refine GL.wk (Wk.av (bM:=[.any,.v (ii (i:Nat)),.any,.any,.box (ak p) 0,.any,.box [.v (sv name)] 0,.box [ints ks] 0,.any,.any,.any,.any,.v (.bool true),.any,.any,.any,.any,.any,.any]) aj) ?_;refine bZ ?_;refine ab ?_;refine U [3] (hE) ?_;exact al
theorem DR (p:Src) (fn:Int) (name:ae) (z:Int) (h:GF Tryz.prog 36 [.agg (ak p),.v (ii fn),.v (sv name),ints [2]] [] (.v (ii z)) []) :
  GF Tryz.prog 11 [.agg (ak p),.v (ii fn),.v (sv name)] [] (.v (ii z)) []:=by
 refine ah Tryz.func11 Tryz.ntmps11 ?_;refine bC ?_;refine ab ?_;refine U [] (h) ?_;exact al
theorem Kk (p:Src) (fn:Int) (name:ae) (z:Int) (h:GF Tryz.prog 36 [.agg (ak p),.v (ii fn),.v (sv name),ints [7,13]] [] (.v (ii z)) []) :
  GF Tryz.prog 14 [.agg (ak p),.v (ii fn),.v (sv name)] [] (.v (ii z)) []:=by
 refine ah Tryz.func14 Tryz.ntmps14 ?_;refine bC ?_;refine ab ?_;refine U [] (h) ?_;exact al
end Go.Xg
set_option maxHeartbeats 2000000
namespace Go.Xg
open Go.RowKit Go.Xw Go.Proofs
open Go.Xp (Nd T Ar)
open Go.Sp (Src)
open Go.Im
attribute [local irreducible] GW GL GO YG GC GA aQ aR
def cC (p:Src) (h:Value) (c:SS):List GV:=[strs p.globals,.sl 2 (p.arrays.map ay),.sl 3 (p.fns.map aq),.sl 5 (p.nodes.map au),.v h,.v (ii c.code),.v (ii c.at_)]
theorem gX (p:Src) (h:Value) (c:SS) (k z:Int):GF Tryz.prog 103 [.loc 0 0,.v (ii k),.v (ii z)] [.box 108 (cC p h c)] (.tup []) [.box 108 (cC p h (c.fail k z))]:=by
 unfold SS.fail
 cases hc:(c.code==0) with
 | true =>
  rw [if_pos (by simpa using hc)];unfold cC;refine ah Tryz.func103 Tryz.ntmps103 ?_;exact fm
 | false =>
  rw [if_neg (by simpa using hc)];unfold cC;refine ah Tryz.func103 Tryz.ntmps103 ?_;exact fm
theorem Jw (s:ae):GF Tryz.prog 102 [.v (sv s)] [] (.v (.bool (lT s))) []:=by
 unfold lT oB pE dc
 cases h1:(s==[103,101,116])
 all_goals cases h2:(s==[112,117,116])
 all_goals
  refine ah Tryz.func102 Tryz.ntmps102 ?_;exact al
theorem wj (p:Src) (s:ae) (hn:p.arrays.length<=1099511627776):GF Tryz.prog 41 [.agg (ak p),.v (sv s)] [] (.v (ii (cB (fun x:Ar=>x.name==s) p.arrays))) []:=by
 have dw:(p.arrays.map ay).length=p.arrays.length:=by simp
 refine ah Tryz.func41 Tryz.ntmps41 ?_;refine GW.range (p.arrays.map ay).length (fun k fr Γ=>fr=[.any,.v (sv s),.loc 0 0,.any,.any,.any,.any,.any,.sl 2 (p.arrays.map ay),.v (ii ((p.arrays.map ay).length:Int)),.v (ii (k:Nat)),.any,.any,.any,.any,.any,.any,.any,.any,.any,.any]/\Γ=[.box 34 (ak p)]/\(p.arrays.take k).all (fun y=>!(y.name==s))=true) ?_ (by omega) ?_ ?_ ?_
 ·exact ⟨_,_,Wk.av aj,rfl,rfl,rfl⟩
 ·rintro k _ _ ⟨rfl,rfl,_⟩;exact ⟨rfl,rfl,rfl⟩
 ·rintro k _ _ ao ⟨rfl,rfl,aK⟩;rw [dw] at ao;obtain ⟨x,cH⟩:∃ x,p.arrays[k]?=some x:=⟨p.arrays[k],by simp [ao]⟩
  have hr:(p.arrays.map ay)[k]?=some (ay x):=by rw [getElem?_map,cH];rfl
  have bm:=lN (f:=fun y:Ar=>y.name==s) cH
  have hit:=fun h0=>lR (f:=fun y:Ar=>y.name==s) cH h0 aK
  unfold ay at hr
  cases hb:(x.name==s) with
  | true =>
   rw [hit hb];exact ar
  | false =>
   refine ab ?_;exact ⟨rfl,rfl,_,_,(Wk.cut (n:=1) (Nat.zero_le _) rfl).trans (Wk.av aj),rfl,rfl,by rw [bm,aK,hb];rfl⟩
 ·rintro _ _ ⟨rfl,rfl,aK⟩;rw [dw,take_length] at aK;rw [jq aK];exact ar
theorem HP (p:Src) (s:ae) (hn:p.fns.length<=1099511627776):GF Tryz.prog 104 [.agg (ak p),.v (sv s)] [] (.v (ii (cB (fun x:Go.Sp.Fn=>x.name==s) p.fns))) []:=by
 have dw:(p.fns.map aq).length=p.fns.length:=by simp
 refine ah Tryz.func104 Tryz.ntmps104 ?_;refine GW.range (p.fns.map aq).length (fun k fr Γ=>fr=[.any,.v (sv s),.loc 0 0,.any,.any,.any,.any,.any,.sl 3 (p.fns.map aq),.v (ii ((p.fns.map aq).length:Int)),.v (ii (k:Nat)),.any,.any,.any,.any,.any,.any,.any,.any,.any,.any]/\Γ=[.box 34 (ak p)]/\(p.fns.take k).all (fun y=>!(y.name==s))=true) ?_ (by omega) ?_ ?_ ?_
 ·exact ⟨_,_,Wk.av aj,rfl,rfl,rfl⟩
 ·rintro k _ _ ⟨rfl,rfl,_⟩;exact ⟨rfl,rfl,rfl⟩
 ·rintro k _ _ ao ⟨rfl,rfl,aK⟩;rw [dw] at ao;obtain ⟨x,cH⟩:∃ x,p.fns[k]?=some x:=⟨p.fns[k],by simp [ao]⟩
  have hr:(p.fns.map aq)[k]?=some (aq x):=by rw [getElem?_map,cH];rfl
  have bm:=lN (f:=fun y:Go.Sp.Fn=>y.name==s) cH
  have hit:=fun h0=>lR (f:=fun y:Go.Sp.Fn=>y.name==s) cH h0 aK
  unfold aq at hr
  cases hb:(x.name==s) with
  | true =>
   rw [hit hb];exact ar
  | false =>
   refine ab ?_;exact ⟨rfl,rfl,_,_,(Wk.cut (n:=1) (Nat.zero_le _) rfl).trans (Wk.av aj),rfl,rfl,by rw [bm,aK,hb];rfl⟩
 ·rintro _ _ ⟨rfl,rfl,aK⟩;rw [dw,take_length] at aK;rw [jq aK];exact ar
theorem QY (l:List ae) (s:ae) (hn:l.length<=1099511627776):GF Tryz.prog 80 [strs l,.v (sv s)] [] (.v (ii (uK l s))) []:=by
 have dw:(l.map fun s=>[GV.v (sv s)]).length=l.length:=by simp
 unfold uK;refine ah Tryz.func80 Tryz.ntmps80 ?_;refine GW.range (l.map fun s=>[GV.v (sv s)]).length (fun k fr Γ=>fr=[strs l,.v (sv s),.any,.any,.any,.any,.any,strs l,.v (ii ((l.map fun s=>[GV.v (sv s)]).length:Int)),.v (ii (k:Nat)),.any,.any,.any,.any,.any,.any,.any,.any,.any]/\Γ=[]/\(l.take k).all (fun y=>!(y==s))=true) ?_ (by omega) ?_ ?_ ?_
 ·exact ⟨_,_,Wk.av aj,rfl,rfl,rfl⟩
 ·rintro k _ _ ⟨rfl,rfl,_⟩;exact ⟨rfl,rfl,rfl⟩
 ·rintro k _ _ ao ⟨rfl,rfl,aK⟩;rw [dw] at ao;obtain ⟨x,cH⟩:∃ x,l[k]?=some x:=⟨l[k],by simp [ao]⟩
  have hr:(l.map fun s=>[GV.v (sv s)])[k]?=some [.v (sv x)]:=by rw [getElem?_map,cH];rfl
  have bm:=lN (f:=fun y:ae=>y==s) cH
  have hit:=fun h0=>lR (f:=fun y:ae=>y==s) cH h0 aK
  cases hb:(x==s) with
  | true =>
   rw [hit hb];exact ar
  | false =>
   refine ab ?_;exact ⟨rfl,rfl,_,_,Wk.av aj,rfl,rfl,by rw [bm,aK,hb];rfl⟩
 ·rintro _ _ ⟨rfl,rfl,aK⟩;rw [dw,take_length] at aK;rw [jq aK];exact ar
theorem Of (l:List Int) (n:Int) (hn:l.length<=1099511627776):GF Tryz.prog 57 [ints l,.v (ii n)] [] (.v (.bool (l.contains n))) []:=by
 have dw:(l.map fun i=>[GV.v (ii i)]).length=l.length:=by simp
 refine ah Tryz.func57 Tryz.ntmps57 ?_;refine GW.range (l.map fun i=>[GV.v (ii i)]).length (fun k fr Γ=>fr=[ints l,.v (ii n),.any,.any,.any,.any,.any,ints l,.v (ii ((l.map fun i=>[GV.v (ii i)]).length:Int)),.v (ii (k:Nat)),.any,.any,.any,.any,.any,.any,.any]/\Γ=[]/\(l.take k).contains n=false) ?_ (by omega) ?_ ?_ ?_
 ·exact ⟨_,_,Wk.av aj,rfl,rfl,rfl⟩
 ·rintro k _ _ ⟨rfl,rfl,_⟩;exact ⟨rfl,rfl,rfl⟩
 ·rintro k _ _ ao ⟨rfl,rfl,hc⟩;rw [dw] at ao;obtain ⟨x,cH⟩:∃ x,l[k]?=some x:=⟨l[k],by simp [ao]⟩;have hr:=mq cH
  have bm:(l.take (k+1)).contains n=((l.take k).contains n || (x==n)):=by
   rw [take_add_one,cH,List.contains_append];show (_ || [x].contains n)=_
   congr 1
   rw [List.contains_cons,List.contains_nil,Bool.or_false];exact Bool.beq_comm
  have hm:=mem_of_getElem? cH
  cases hb:(x==n) with
  | true =>
   have h3:x=n:=by simpa using hb
   rw [show l.contains n=true by rw [<-h3];exact List.contains_iff_mem.2 hm];exact ar
  | false =>
   refine ab ?_;exact ⟨rfl,rfl,_,_,Wk.av aj,rfl,rfl,by rw [bm,hc,hb];rfl⟩
 ·rintro _ _ ⟨rfl,rfl,hc⟩;rw [dw,take_length] at hc;rw [hc];exact ar
end Go.Xg
set_option maxHeartbeats 4000000
namespace Go.Im
open Go.Xp Go.Sp
def xg (l:List ae) (k:Nat):Bool:=(List.range k).any (nH l)
theorem CI (l:List ae) (k:Nat):xg l (k+1)=(xg l k || nH l k):=by
 unfold xg;rw [List.range_succ,List.any_append];simp
def jW (f:Go.Sp.Fn) (c:SS) (k:Nat):SS:=⟨f.params.take k,if xg f.params k=true then fL c.code 21 else c.code,if xg f.params k=true/\c.code=0 then 0 else c.at_⟩
theorem OC {f:Go.Sp.Fn} {c:SS} {k:Nat} (h:nH f.params k=true):(jW f c (k+1)).code=((jW f c k).fail 21 0).code/\(jW f c (k+1)).at_=((jW f c k).fail 21 0).at_:=by
 unfold jW SS.fail;simp only [CI,h,Bool.or_true,true_and,if_true];unfold fL
 cases xg f.params k <;> by_cases h0:c.code=0 <;> simp [h0]
theorem Mt {f:Go.Sp.Fn} {c:SS} {k:Nat} (h:nH f.params k=false):(jW f c (k+1)).code=(jW f c k).code/\(jW f c (k+1)).at_=(jW f c k).at_:=by
 unfold jW;simp only [CI,h,Bool.or_false,and_self]
end Go.Im
namespace Go.Xg
open Go.RowKit Go.Xw Go.Proofs
open Go.Xp (Nd T Ar aB aw)
open Go.Sp (Src)
open Go.Im
attribute [local irreducible] GW GL GO YG GC GA aQ aR
theorem Gx (p:Src) (h0:Value) (c:SS) (f:Go.Sp.Fn) (nj:f.params.length<=1048576) :
  GC Tryz.prog 90 [.loc 0 0,.agg (aq f)] [.box 108 (cC p h0 c)] fun g Δ=>g=.tup []/\∃ ad cp,Δ=[.box 108 (cC p (.slice ad f.params.length cp) (pK f c)),.vech 9 1 (aX f.params) (.slice ad f.params.length cp)]:=by
 have dw:(f.params.map fun s=>[GV.v (sv s)]).length=f.params.length:=by simp
 have v7:pK f c=⟨f.params,(jW f c f.params.length).code,(jW f c f.params.length).at_⟩:=by
  unfold pK jW xg ur;rfl
 rw [v7]
 have py:(jW f c 0).code=c.code/\(jW f c 0).at_=c.at_:=by unfold jW xg;simp
 rw [show cC p h0 c=cC p h0 (jW f c 0) by unfold cC;rw [py.1,py.2]];unfold cC aq;refine cM Tryz.func90 Tryz.ntmps90 ?_;refine GW.wk (Wk.lY 9 1) ?_;simp only [cons_append,nil_append];refine ab ?_;refine GW.range (f.params.map fun s=>[GV.v (sv s)]).length (fun k fr Γ=>∃ ad cp R n B,fr=[.loc 0 0,.any,.any,.loc 2 0,.any,.any,.any,.any,.any,.any,strs f.params,.v (ii ((f.params.map fun s=>[GV.v (sv s)]).length:Int)),.v (ii (k:Nat)),.any,.any,.any,.any,.any,.any,.any,.any,.any,.any,.any,.any,.any,.any,.any,.any,.any,.any,.any,.any,.any,.any]/\Γ=[.box 108 (cC p (.slice ad n cp) (jW f c k)),.vech 9 1 R (.slice ad n cp),B]/\R.length=n/\R=aX (f.params.take k)) ?_ (by omega) ?_ ?_ ?_
 ·exact ⟨_,_,Wk.av aj,none,0,[],0,_,rfl,rfl,rfl,by simp [aX]⟩
 ·rintro k _ _ ⟨ad,cp,R,n,B,rfl,rfl,_⟩;exact ⟨rfl,rfl,rfl⟩
 ·rintro k _ _ ao ⟨ad,cp,R,n,B,rfl,rfl,eF,hR⟩;rw [dw] at ao;obtain ⟨x,hx⟩:∃ x,f.params[k]?=some x:=⟨f.params[k],by simp [ao]⟩
  have HF:(f.params.map fun s=>[GV.v (sv s)])[k]?=some [.v (sv x)]:=by rw [getElem?_map,hx];rfl
  have bm:aX (f.params.take (k+1))=R++[[.v (sv x)]]:=by rw [take_add_one,hx,hR];simp [aX]
  have u9:n<=1048576:=by rw [<-eF,hR,kc,length_take];omega
  have hL:GF Tryz.prog 46 [.sl 1 R,.v (sv x)] [] (.v (.bool ((f.params.take k).contains x))) []:=by
   rw [hR];exact gE (f.params.take k) x (by rw [length_take];omega)
  have hd:nH f.params k=(f.params.take k).contains x:=by unfold nH;rw [hx]
  rw [<-hd] at hL;have gB:=gX p (.slice ad n cp) (jW f c k) 21 0;clear hR
  cases hb:nH f.params k with
  | true =>
   rw [hb] at hL;obtain ⟨e1,e2⟩:=OC (c:=c) hb;unfold cC at gB |-;rw [e1,e2];generalize (jW f c k).fail 21 0=s1 at *;generalize jW f c k=s0 at *;refine ab ?_;refine GL.borrow hL (fun B K β w l hI hF=>fE (A:=[_]) (C:=[_]) hI hF rfl rfl) ?_;refine bZ ?_;refine ab ?_;refine U [0] (gB) ?_;refine GL.qM 1 rfl rfl rfl rfl rfl rfl rfl rfl (by first | rfl | assumption) ⟨⟨by omega,by omega⟩,by decide⟩ ?_;intro mU mW;refine cS ?_;refine ab ?_;exact ⟨rfl,rfl,_,_,Wk.av aj,mU,mW,_,_,_,rfl,rfl,by simp [eF],bm.symm⟩
  | false =>
   rw [hb] at hL;obtain ⟨e1,e2⟩:=Mt (c:=c) hb;unfold cC at gB |-;rw [e1,e2];generalize jW f c k=s0 at *;refine ab ?_;refine GL.borrow hL (fun B K β w l hI hF=>fE (A:=[_]) (C:=[_]) hI hF rfl rfl) ?_;refine bZ ?_;refine ab ?_;refine GL.qM 1 rfl rfl rfl rfl rfl rfl rfl rfl (by first | rfl | assumption) ⟨⟨by omega,by omega⟩,by decide⟩ ?_;intro mU mW;refine cS ?_;refine ab ?_;exact ⟨rfl,rfl,_,_,Wk.av aj,mU,mW,_,_,_,rfl,rfl,by simp [eF],bm.symm⟩
 ·rintro _ _ ⟨ad,cp,R,n,B,rfl,rfl,eF,hR⟩;rw [dw] at hR |-;rw [take_length] at hR
  have va:n=f.params.length:=by rw [<-eF,hR,kc]
  subst va;refine ab ?_
  (repeat (first | refine GW.ret ?_ | refine cL ?_ | refine cK ?_ | refine aJ ?_ | refine b7 ?_))
  exact Sm (n:=2) rfl (by first | exact .inr rfl | exact .inl rfl) (Nat.le_of_ble_eq_true rfl) rfl ⟨rfl,ad,cp,by rw [hR];rfl⟩
end Go.Xg
namespace Go.Xg
open Go.RowKit Go.Xw Go.Proofs
open Go.Xp (Nd T Ar aB aw)
open Go.Sp (Src)
open Go.Im
attribute [local irreducible] GW GL GO YG GC GA aQ aR
def cO (p:Src) (c:SS) (ls:List ae) (ad:Option Addr) (cp:Nat):List Ob:=[.box 108 (cC p (.slice ad ls.length cp) c),.vech 9 1 (aX ls) (.slice ad ls.length cp)]
theorem Gv (p:Src) (c:SS) (n:Nd) (l:List T) (ad:Option Addr) (cp:Nat) (h1:(n.s==[103,101,116])=true) (hl:l.length<=1099511627776) :
  GF Tryz.prog 105 [.loc 0 0,.agg (cT (.mk n l))] (cO p c c.ls ad cp) (.v (.bool true)) (cO p (ey c n l.length 0) c.ls ad cp):=by
 have dQ:(aH l).length=l.length:=aL l;unfold cO;unfold ey;show GF _ _ _ _ (.v (.bool true)) [.box _ (cC p _ (if l.length≠0 then _ else _)),_];have gB:=gX p (.slice ad c.ls.length cp) c 23 n.at_;unfold cC at gB |-
 cases hk:(((aH l).length:Int) != ((0:Nat):Int)) with
 | true =>
  rw [if_pos (show l.length≠0 by rw [dQ,bne_iff_ne] at hk;omega)];generalize c.fail 23 n.at_=c1 at *;refine ah Tryz.func105 Tryz.ntmps105 ?_;refine U [0] (gB) ?_;exact al
 | false =>
  rw [if_neg (show ¬ l.length≠0 by rw [dQ,bne_eq_false_iff_eq] at hk;omega)];refine ah Tryz.func105 Tryz.ntmps105 ?_;exact al
theorem Gw (p:Src) (c:SS) (n:Nd) (l:List T) (ad:Option Addr) (cp:Nat) (h1:(n.s==[103,101,116])=false) (h2:(n.s==[112,117,116])=true) (hl:l.length<=1099511627776) :
  GF Tryz.prog 105 [.loc 0 0,.agg (cT (.mk n l))] (cO p c c.ls ad cp) (.v (.bool true)) (cO p (ey c n l.length 1) c.ls ad cp):=by
 have dQ:(aH l).length=l.length:=aL l;unfold cO;unfold ey;show GF _ _ _ _ (.v (.bool true)) [.box _ (cC p _ (if l.length≠1 then _ else _)),_];have gB:=gX p (.slice ad c.ls.length cp) c 23 n.at_;unfold cC at gB |-
 cases hk:(((aH l).length:Int) != ((1:Nat):Int)) with
 | true =>
  rw [if_pos (show l.length≠1 by rw [dQ,bne_iff_ne] at hk;omega)];generalize c.fail 23 n.at_=c1 at *;refine ah Tryz.func105 Tryz.ntmps105 ?_;refine U [0] (gB) ?_;exact al
 | false =>
  rw [if_neg (show ¬ l.length≠1 by rw [dQ,bne_eq_false_iff_eq] at hk;omega)];refine ah Tryz.func105 Tryz.ntmps105 ?_;exact al
theorem Ju (p:Src) (c:SS) (n:Nd) (l:List T) (ad:Option Addr) (cp:Nat) (h1:(n.s==[103,101,116])=false) (h2:(n.s==[112,117,116])=false) (h3:(n.s==[115,105,122,101])=false) (hl:l.length<=1099511627776)
  (hF:GF Tryz.prog 104 [.agg (ak p),.v (sv n.s)] [] (.v (ii (-1))) []) :
  GF Tryz.prog 105 [.loc 0 0,.agg (cT (.mk n l))] (cO p c c.ls ad cp) (.v (.bool false)) (cO p (c.fail 22 n.at_) c.ls ad cp):=by
 have gB:=gX p (.slice ad c.ls.length cp) c 22 n.at_
 have hd:decide ((-1:Int) < 0)=true:=by decide
 unfold cO;unfold cC at gB |-;generalize c.fail 22 n.at_=c1 at *;refine ah Tryz.func105 Tryz.ntmps105 ?_;refine GW.draw (.q 0 (.q 1 (.q 2 (.q 3 (.q 4 (.q 5 (.q 6 (.a 7 (.q 8 .nil))))))))) (by kernel_rfl) (by kernel_rfl) ?_;refine ai ?_;refine ax [] (hF) ?_;refine ab ?_;refine U [0] (gB) ?_;exact al
theorem Jt (p:Src) (c:SS) (n:Nd) (l:List T) (i:Nat) (f:Go.Sp.Fn) (ad:Option Addr) (cp:Nat) (h1:(n.s==[103,101,116])=false) (h2:(n.s==[112,117,116])=false) (h3:(n.s==[115,105,122,101])=false) (hl:l.length<=1099511627776)
  (hf:p.fns[i]?=some f) (hF:GF Tryz.prog 104 [.agg (ak p),.v (sv n.s)] [] (.v (ii ((i:Nat):Int))) []) :
  GF Tryz.prog 105 [.loc 0 0,.agg (cT (.mk n l))] (cO p c c.ls ad cp) (.v (.bool true)) (cO p (ey c n l.length f.params.length) c.ls ad cp):=by
 have dQ:(aH l).length=l.length:=aL l
 have hd:decide (((i:Nat):Int) < 0)=false:=by simp
 have hr:(p.fns.map aq)[i]?=some (aq f):=by rw [getElem?_map,hf];rfl
 have ct:(f.params.map fun s=>[GV.v (sv s)]).length=f.params.length:=by simp
 unfold aq at hr;rw [<-ct];unfold cO;unfold ey;show GF _ _ _ _ (.v (.bool true)) [.box _ (cC p _ (if l.length≠(f.params.map fun s=>[GV.v (sv s)]).length then _ else _)),_];have gB:=gX p (.slice ad c.ls.length cp) c 23 n.at_;unfold cC at gB |-
 cases hk:(((aH l).length:Int) != (((f.params.map fun s=>[GV.v (sv s)]).length:Nat):Int)) with
 | true =>
  rw [if_pos (show l.length≠(f.params.map fun s=>[GV.v (sv s)]).length by rw [dQ,bne_iff_ne] at hk;omega)];generalize c.fail 23 n.at_=c1 at *;refine ah Tryz.func105 Tryz.ntmps105 ?_;refine GW.draw (.q 0 (.q 1 (.q 2 (.q 3 (.q 4 (.q 5 (.q 6 (.a 7 (.q 8 .nil))))))))) (by kernel_rfl) (by kernel_rfl) ?_;refine ai ?_;refine ax [] (hF) ?_;refine ab ?_;refine U [0] (gB) ?_;exact al
 | false =>
  rw [if_neg (show ¬ l.length≠(f.params.map fun s=>[GV.v (sv s)]).length by rw [dQ,bne_eq_false_iff_eq] at hk;omega)];refine ah Tryz.func105 Tryz.ntmps105 ?_;refine GW.draw (.q 0 (.q 1 (.q 2 (.q 3 (.q 4 (.q 5 (.q 6 (.a 7 (.q 8 .nil))))))))) (by kernel_rfl) (by kernel_rfl) ?_;refine ai ?_;refine ax [] (hF) ?_;exact ar
end Go.Xg
namespace Go.Xg
open Go.RowKit Go.Xw Go.Proofs
open Go.Xp (Nd T Ar aB aw)
open Go.Sp (Src)
open Go.Im
attribute [local irreducible] GW GL GO YG GC GA aQ aR
theorem Dx (p:Src) (c:SS) (n:Nd) (u:T) (ad:Option Addr) (cp:Nat) (h1:(n.s==[103,101,116])=false) (h2:(n.s==[112,117,116])=false) (h3:(n.s==[115,105,122,101])=true) (jg:p.arrays.length<=1099511627776) (eA:c.ls.length<=1099511627776) :
  GF Tryz.prog 105 [.loc 0 0,.agg (cT (.mk n [u]))] (cO p c c.ls ad cp) (.v (.bool false)) (cO p (if eP p u.n c.ls=true then c.fail 24 n.at_ else c) c.ls ad cp):=by
 have ri:(aH [u])[0]?=some (cT u):=cz rfl;have hA:=wj p u.n.s jg;have hL:=gE c.ls u.n.s eA;have gB:=gX p (.slice ad c.ls.length cp) c 24 n.at_;rw [show eP p u.n c.ls=((u.n.kind != 2 || decide (cB (fun x:Ar=>x.name==u.n.s) p.arrays < 0)) || c.ls.contains u.n.s) from rfl];generalize cB (fun x:Ar=>x.name==u.n.s) p.arrays=z at *;unfold cO;unfold cC at gB |-
 cases h4:(u.n.kind != 2) with
 | true =>
  rw [if_pos (by first | rfl | decide)];generalize c.fail 24 n.at_=c1 at *;refine ah Tryz.func105 Tryz.ntmps105 ?_;refine GW.draw (.q 0 (.q 1 (.q 2 (.q 3 (.q 4 (.q 5 (.q 6 (.q 7 (.q 8 (.q 9 (.q 10 (.q 11 (.q 12 (.q 13 (.q 14 (.q 15 (.q 16 (.q 17 (.q 18 (.q 19 (.q 20 (.a 21 (.q 22 (.q 23 (.q 24 (.q 25 (.q 26 (.q 27 (.q 28 (.q 29 (.q 30 (.q 31 (.q 32 (.q 33 (.q 34 (.a 35 (.q 36 (.q 37 .nil)))))))))))))))))))))))))))))))))))))) (by kernel_rfl) (by kernel_rfl) ?_;refine ai ?_;refine ai ?_;refine ab ?_;refine U [0] (gB) ?_;exact al
 | false =>
  cases h5:decide (z < 0) with
  | true =>
   rw [if_pos (by first | rfl | decide)];generalize c.fail 24 n.at_=c1 at *;refine ah Tryz.func105 Tryz.ntmps105 ?_;refine GW.draw (.q 0 (.q 1 (.q 2 (.q 3 (.q 4 (.q 5 (.q 6 (.q 7 (.q 8 (.q 9 (.q 10 (.q 11 (.q 12 (.q 13 (.q 14 (.q 15 (.q 16 (.q 17 (.q 18 (.q 19 (.q 20 (.a 21 (.q 22 (.q 23 (.q 24 (.q 25 (.q 26 (.q 27 (.q 28 (.q 29 (.q 30 (.q 31 (.q 32 (.q 33 (.q 34 (.a 35 (.q 36 (.q 37 .nil)))))))))))))))))))))))))))))))))))))) (by kernel_rfl) (by kernel_rfl) ?_;refine ai ?_;refine bz [] (hA) ?_;refine ai ?_;refine ab ?_;refine U [0] (gB) ?_;exact al
  | false =>
   generalize c.ls.contains u.n.s=b at *
   cases b with
   | true =>
    rw [if_pos (by first | rfl | decide)];generalize c.fail 24 n.at_=c1 at *;refine ah Tryz.func105 Tryz.ntmps105 ?_;refine GW.draw (.q 0 (.q 1 (.q 2 (.q 3 (.q 4 (.q 5 (.q 6 (.q 7 (.q 8 (.q 9 (.q 10 (.q 11 (.q 12 (.q 13 (.q 14 (.q 15 (.q 16 (.q 17 (.q 18 (.q 19 (.q 20 (.a 21 (.q 22 (.q 23 (.q 24 (.q 25 (.q 26 (.q 27 (.q 28 (.q 29 (.q 30 (.q 31 (.q 32 (.q 33 (.q 34 (.a 35 (.q 36 (.q 37 .nil)))))))))))))))))))))))))))))))))))))) (by kernel_rfl) (by kernel_rfl) ?_;refine ai ?_;refine bz [] (hA) ?_;refine Pq rfl rfl rfl (by first | exact rfl | assumption) (GL.borrow hL (fun B K β w l hI hF=>fE (A:=[_]) (C:=[_]) hI hF rfl rfl) ?_);refine c8 ?_;refine ai ?_;refine ab ?_;refine U [0] (gB) ?_;exact al
   | false =>
    rw [if_neg (by decide)];refine ah Tryz.func105 Tryz.ntmps105 ?_;refine GW.draw (.q 0 (.q 1 (.q 2 (.q 3 (.q 4 (.q 5 (.q 6 (.q 7 (.q 8 (.q 9 (.q 10 (.q 11 (.q 12 (.q 13 (.q 14 (.q 15 (.q 16 (.q 17 (.q 18 (.q 19 (.q 20 (.a 21 (.q 22 (.q 23 (.q 24 (.q 25 (.q 26 (.q 27 (.q 28 (.q 29 (.q 30 (.q 31 (.q 32 (.q 33 (.q 34 (.a 35 (.q 36 (.q 37 .nil)))))))))))))))))))))))))))))))))))))) (by kernel_rfl) (by kernel_rfl) ?_;refine ai ?_;refine bz [] (hA) ?_;refine Pq rfl rfl rfl (by first | exact rfl | assumption) (GL.borrow hL (fun B K β w l hI hF=>fE (A:=[_]) (C:=[_]) hI hF rfl rfl) ?_);refine c8 ?_;refine ai ?_;exact ar
theorem Dy (p:Src) (c:SS) (n:Nd) (l:List T) (ad:Option Addr) (cp:Nat) (h1:(n.s==[103,101,116])=false) (h2:(n.s==[112,117,116])=false) (h3:(n.s==[115,105,122,101])=true) (hl:l.length≠1) :
  GF Tryz.prog 105 [.loc 0 0,.agg (cT (.mk n l))] (cO p c c.ls ad cp) (.v (.bool false)) (cO p (c.fail 23 n.at_) c.ls ad cp):=by
 have gB:=gX p (.slice ad c.ls.length cp) c 23 n.at_;have dQ:(aH l).length=l.length:=aL l
 have g1:(((aH l).length:Int)==1)=false:=by rw [dQ,beq_eq_false_iff_ne];omega
 have g2:(((aH l).length:Int) != 1)=true:=by rw [dQ,bne_iff_ne];omega
 unfold cO;unfold cC at gB |-;generalize c.fail 23 n.at_=c1 at *;refine ah Tryz.func105 Tryz.ntmps105 ?_;refine GW.draw (.q 0 (.q 1 (.q 2 (.q 3 (.q 4 (.q 5 (.q 6 (.q 7 (.q 8 (.q 9 (.q 10 (.q 11 (.q 12 (.q 13 (.q 14 (.q 15 (.q 16 (.q 17 (.q 18 (.q 19 (.q 20 (.a 21 (.q 22 (.q 23 (.q 24 (.q 25 (.q 26 (.q 27 (.q 28 (.q 29 (.q 30 (.q 31 (.q 32 (.q 33 (.q 34 (.a 35 (.q 36 (.q 37 .nil)))))))))))))))))))))))))))))))))))))) (by kernel_rfl) (by kernel_rfl) ?_;refine ai ?_;refine ab ?_;refine U [0] (gB) ?_;exact al
end Go.Xg
namespace Go.Xg
open Go.RowKit Go.Xw Go.Proofs
open Go.Xp (Nd T Ar aB aw)
open Go.Sp (Src)
open Go.Im
attribute [local irreducible] GW GL GO YG GC GA aQ aR
theorem L6 (p:Src) (c:SS) (t:T) (ad:Option Addr) (cp:Nat) (jg:p.arrays.length<=1099511627776) (iz:p.fns.length<=1099511627776) (eA:c.ls.length<=1099511627776) (hl:t.kids.length<=1099511627776) :
  GF Tryz.prog 105 [.loc 0 0,.agg (cT t)] (cO p c c.ls ad cp) (.v (.bool (fo p c t).2)) (cO p (fo p c t).1 c.ls ad cp):=by
 cases t with
 | mk n l =>
 have hl:l.length<=1099511627776:=hl
 cases h1:(n.s==[103,101,116]) with
 | true =>
  have e:fo p c (.mk n l)=(ey c n l.length 0,true):=by
   unfold fo oB;exact if_pos (show n.s=_ by simpa using h1)
  rw [e];exact Gv p c n l ad cp h1 hl
 | false =>
  have n1:¬ n.s=[103,101,116]:=by simpa using h1
  cases h2:(n.s==[112,117,116]) with
  | true =>
   have e:fo p c (.mk n l)=(ey c n l.length 1,true):=by
    unfold fo oB pE;rw [if_neg (show ¬ (T.mk n l).n.s=_ from n1)];exact if_pos (show n.s=_ by simpa using h2)
   rw [e];exact Gw p c n l ad cp h1 h2 hl
  | false =>
   have n2:¬ n.s=[112,117,116]:=by simpa using h2
   cases h3:(n.s==[115,105,122,101]) with
   | true =>
    have e:fo p c (.mk n l)=(ey (if l.length=1/\eP p (lU (.mk n l)) c.ls=true then c.fail 24 n.at_ else c) n l.length 1,false):=by
     unfold fo oB pE dc;rw [if_neg (show ¬ (T.mk n l).n.s=_ from n1),if_neg (show ¬ (T.mk n l).n.s=_ from n2)];exact if_pos (show n.s=_ by simpa using h3)
    rw [e]
    by_cases hk:l.length=1
    ·obtain ⟨u,rfl⟩:∃ u,l=[u]:=by
      match l,hk with
      | [u],_=>exact ⟨u,rfl⟩
     have e2:ey (if [u].length=1/\eP p (lU (.mk n [u])) c.ls=true then c.fail 24 n.at_ else c) n [u].length 1=(if eP p u.n c.ls=true then c.fail 24 n.at_ else c):=by
      unfold ey;rw [if_neg (by simp)];show (if _/\eP p u.n c.ls=true then _ else _)=_
      by_cases hb:eP p u.n c.ls=true
      ·rw [if_pos hb];exact if_pos ⟨rfl,hb⟩
      ·rw [if_neg hb];exact if_neg fun h=>hb h.2
     rw [e2];exact Dx p c n u ad cp h1 h2 h3 jg eA
    ·have e2:ey (if l.length=1/\eP p (lU (.mk n l)) c.ls=true then c.fail 24 n.at_ else c) n l.length 1=c.fail 23 n.at_:=by
      rw [if_neg fun h=>hk h.1];unfold ey;exact if_pos hk
     rw [e2];exact Dy p c n l ad cp h1 h2 h3 hk
   | false =>
    have n3:¬ n.s=[115,105,122,101]:=by simpa using h3
    have hF:=HP p n.s iz;unfold cB at hF
    cases hx:p.fns.findIdx? (fun f:Go.Sp.Fn=>f.name==n.s) with
    | none =>
     rw [hx] at hF
     have e:fo p c (.mk n l)=(c.fail 22 n.at_,false):=by
      unfold fo oB pE dc;rw [if_neg (show ¬ (T.mk n l).n.s=_ from n1),if_neg (show ¬ (T.mk n l).n.s=_ from n2),if_neg (show ¬ (T.mk n l).n.s=_ from n3)];show (match p.fns.findIdx? (fun f:Go.Sp.Fn=>f.name==n.s) with | none=>_ | some i=>_)=_;rw [hx];rfl
     rw [e];exact Ju p c n l ad cp h1 h2 h3 hl hF
    | some i =>
     rw [hx] at hF;have hi:i < p.fns.length:=(List.findIdx?_eq_some_iff_getElem.1 hx).1;obtain ⟨f,hf⟩:∃ f,p.fns[i]?=some f:=⟨p.fns[i],by simp [hi]⟩
     have e:fo p c (.mk n l)=(ey c n l.length f.params.length,true):=by
      unfold fo oB pE dc;rw [if_neg (show ¬ (T.mk n l).n.s=_ from n1),if_neg (show ¬ (T.mk n l).n.s=_ from n2),if_neg (show ¬ (T.mk n l).n.s=_ from n3)];show (match p.fns.findIdx? (fun f:Go.Sp.Fn=>f.name==n.s) with | none=>_ | some i=>_)=_;rw [hx];show (ey c n l.length (lu p i),true)=_;unfold lu;rw [hf]
     rw [e];exact Jt p c n l i f ad cp h1 h2 h3 hl hf hF
end Go.Xg
namespace Go.Im
open Go.Xp Go.Sp
theorem C6 (p:Src) (u:T):∀ (l:List T) (c:SS),gZ p (l++[u]) c=mO p u (gZ p l c)
 | [],c=>by rw [nil_append,gZ,gZ,gZ]
 | t::l,c=>by rw [cons_append,gZ,gZ,C6 p u l]
theorem Mm (p:Src) {l:List T} {k:Nat} {u:T} (h:l[k]?=some u) (c:SS):gZ p (l.take (k+1)) c=mO p u (gZ p (l.take k) c):=by
 rw [take_add_one,h];exact C6 p u _ c
theorem O7 (c:SS) (n:Nd):(lD c n).ls.length<=c.ls.length+1:=by
 unfold lD;split
 ·omega
 split
 ·simp [SS.nI]
 split
 ·simp [SS.nI]
 ·simp
mutual
theorem Ra (p:Src):∀ (t:T) (c:SS),(mO p t c).ls.length<=c.ls.length+aB t
 | .mk n l,c=>by
  rw [mO,aB];refine Nat.le_trans (O7 _ _) ?_;split
  ·have:=wx p l (jb p c (.mk n l)).1;rw [vu] at this;omega
  ·rw [vu];omega
theorem wx (p:Src):∀ (l:List T) (c:SS),(gZ p l c).ls.length<=c.ls.length+aw l
 | [],c=>by rw [gZ,aw];omega
 | t::r,c=>by
  rw [gZ,aw];have h1:=wx p r (mO p t c);have h2:=Ra p t c;omega
end
end Go.Im
namespace Go.Xg
open Go.RowKit Go.Xw Go.Proofs
open Go.Xp (Nd T Ar aB aw cR)
open Go.Sp (Src)
open Go.Im
attribute [local irreducible] GW GL GO YG GC GA aQ aR
theorem L7 (p:Src) (jg:p.arrays.length<=1099511627776) (iz:p.fns.length<=1099511627776) (fa:p.globals.length<=1099511627776):∀ (N:Nat) (t:T),aB t<=N->∀ (c:SS) (ad:Option Addr) (cp:Nat),c.ls.length+aB t<=8388608 ->
  GC Tryz.prog 91 [.loc 0 0,.agg (cT t)] (cO p c c.ls ad cp) fun g Δ=>g=.tup []/\∃ gR gT,Δ=cO p (mO p t c) (mO p t c).ls gR gT:=by
 intro N
 induction N with
 | zero=>intro t h;have:=gO t;omega
 | succ N ih =>
 intro t hN c ad cp eA
 cases t with
 | mk n l =>
 rw [Go.Xp.aB] at hN eA;have oS:=cR l;have dQ:(aH l).length=l.length:=aL l;rw [mO];have ct:=vu p c (.mk n l);have hL:=gE c.ls n.s (by omega);have hG:=gE p.globals n.s fa;have hA:=wj p n.s jg;have hC:=L6 p c (.mk n l) ad cp jg iz (by omega) (by show l.length<=_;omega);have PE:=gX p (.slice ad c.ls.length cp) c 22 n.at_;have Hw:=gX p (.slice ad c.ls.length cp) c 24 n.at_
 have he:jb p c (.mk n l)=(if n.kind=2\/n.kind=7 then (if c.ls.contains n.s=false/\p.globals.contains n.s=false then c.fail 22 n.at_ else c,true)
  else if n.kind=3\/n.kind=8 then (if c.ls.contains n.s=true\/cB (fun x:Ar=>x.name==n.s) p.arrays < 0 then c.fail 24 n.at_ else c,true)
  else if n.kind=4 then fo p c (.mk n l) else (c,true)):=rfl
 obtain ⟨P,hP⟩:∃ P,jb p c (.mk n l)=P:=⟨_,rfl⟩;rw [hP] at he ct |-;unfold cO at hC |-;unfold cC at hC PE Hw |-;refine ah Tryz.func91 Tryz.ntmps91 ?_;refine GW.draw (.q 0 (.q 1 (.q 2 (.q 3 (.q 4 (.q 5 (.a 6 (.q 7 .nil)))))))) (by kernel_rfl) (by kernel_rfl) ?_;refine ai ?_;refine OA rfl rfl (GL.borrow hL (fun B K β w l hI hF=>fE (A:=[_]) (C:=[_,_]) hI hF rfl rfl) ?_);refine c8 ?_;refine ai ?_;refine Iy ?_;refine GW.join (fun fr Γ=>fr=[.loc 0 0,.any,.any,.loc 2 0,.loc 3 0,.any,.v (.bool P.2),.any,.any,.any,.any,.any,.any,.any,.any,.any,.any,.any,.any,.any,.any,.any,.any,.any,.any,.any,.any,.any,.any,.any,.any,.any,.any,.any,.any,.any,.any,.any,.any,.any,.any,.any,.any,.any,.any,.any,.any,.any,.any,.any,.any,.any,.any,.any,.any,.any,.any,.any,.any,.any,.any,.any,.any,.any,.any,.any,.any,.any,.any,.any,.any,.any,.any,.any,.any,.any,.any,.any,.any,.any,.any,.any,.any,.any,.any,.any,.any,.any,.any,.any,.any,.any,.any,.any,.any,.any,.any,.any,.any,.any,.any,.any,.any,.any,.any,.any,.any,.any,.any,.any]/\Γ=[.box 108 (cC p (.slice ad c.ls.length cp) P.1),.vech 9 1 (aX c.ls) (.slice ad c.ls.length cp),.box 56 (cT (.mk n l)),.box 53 (au n)]) ?_ ?_
 ·obtain ⟨kd,at_,nn,s,ks⟩:=n;simp only at *;unfold cC;generalize fo p c (.mk ⟨kd,at_,nn,s,ks⟩ l)=cs at *;generalize cB (fun x:Ar=>x.name==s) p.arrays=z at *;generalize c.ls.contains s=b at *;generalize p.globals.contains s=g at *;generalize c.fail 22 at_=c22 at *;generalize c.fail 24 at_=c24 at *
  by_cases h2:kd=2
  ·subst h2
   have q2:((2:Int)==2)=true:=by decide
   rw [if_pos (by decide)] at he;subst he
   cases b with
   | true =>
    refine ab ?_;refine GW.draw (.q 0 (.q 1 (.q 2 (.q 3 (.q 4 (.q 5 (.q 6 (.q 7 (.q 8 (.q 9 (.a 10 (.q 11 (.q 12 .nil))))))))))))) (by kernel_rfl) (by kernel_rfl) ?_;refine ai ?_;refine ab ?_;exact ⟨_,_,Wk.av aj,rfl,rfl⟩
   | false =>
    cases g with
    | true =>
     refine ab ?_;refine GW.draw (.q 0 (.q 1 (.q 2 (.q 3 (.q 4 (.q 5 (.q 6 (.q 7 (.q 8 (.q 9 (.a 10 (.q 11 (.q 12 .nil))))))))))))) (by kernel_rfl) (by kernel_rfl) ?_;refine ai ?_;refine bz [] (hG) ?_;refine ab ?_;exact ⟨_,_,Wk.av aj,rfl,rfl⟩
    | false =>
     refine ab ?_;refine GW.draw (.q 0 (.q 1 (.q 2 (.q 3 (.q 4 (.q 5 (.q 6 (.q 7 (.q 8 (.q 9 (.a 10 (.q 11 (.q 12 .nil))))))))))))) (by kernel_rfl) (by kernel_rfl) ?_;refine ai ?_;refine bz [] (hG) ?_;refine ab ?_;refine U [0] (PE) ?_;exact ⟨_,_,Wk.av aj,rfl,rfl⟩
  by_cases h7:kd=7
  ·subst h7
   have q2:((7:Int)==2)=false:=by decide
   have q7:((7:Int)==7)=true:=by decide
   rw [if_pos (by decide)] at he;subst he
   cases b with
   | true =>
    refine ab ?_;refine GW.draw (.q 0 (.q 1 (.q 2 (.q 3 (.q 4 (.q 5 (.q 6 (.q 7 (.q 8 (.q 9 (.a 10 (.q 11 (.q 12 .nil))))))))))))) (by kernel_rfl) (by kernel_rfl) ?_;refine ai ?_;refine ab ?_;exact ⟨_,_,Wk.av aj,rfl,rfl⟩
   | false =>
    cases g with
    | true =>
     refine ab ?_;refine GW.draw (.q 0 (.q 1 (.q 2 (.q 3 (.q 4 (.q 5 (.q 6 (.q 7 (.q 8 (.q 9 (.a 10 (.q 11 (.q 12 .nil))))))))))))) (by kernel_rfl) (by kernel_rfl) ?_;refine ai ?_;refine bz [] (hG) ?_;refine ab ?_;exact ⟨_,_,Wk.av aj,rfl,rfl⟩
    | false =>
     refine ab ?_;refine GW.draw (.q 0 (.q 1 (.q 2 (.q 3 (.q 4 (.q 5 (.q 6 (.q 7 (.q 8 (.q 9 (.a 10 (.q 11 (.q 12 .nil))))))))))))) (by kernel_rfl) (by kernel_rfl) ?_;refine ai ?_;refine bz [] (hG) ?_;refine ab ?_;refine U [0] (PE) ?_;exact ⟨_,_,Wk.av aj,rfl,rfl⟩
  rw [if_neg (by rintro (h | h);(· exact h2 h);exact h7 h)] at he
  by_cases h3:kd=3
  ·subst h3
   have q2:((3:Int)==2)=false:=by decide
   have q7:((3:Int)==7)=false:=by decide
   have q3:((3:Int)==3)=true:=by decide
   rw [if_pos (by decide)] at he
   cases b with
   | true =>
    subst he;refine ab ?_;refine GW.draw (.q 0 (.q 1 (.q 2 (.q 3 (.q 4 (.q 5 (.q 6 (.q 7 (.a 8 (.q 9 (.q 10 .nil))))))))))) (by kernel_rfl) (by kernel_rfl) ?_;refine ai ?_;refine ab ?_;refine U [0] (Hw) ?_;exact ⟨_,_,Wk.av aj,rfl,rfl⟩
   | false =>
    cases hz:decide (z < 0) with
    | true =>
     rw [if_pos (.inr (by simpa using hz))] at he;subst he;refine ab ?_;refine GW.draw (.q 0 (.q 1 (.q 2 (.q 3 (.q 4 (.q 5 (.q 6 (.q 7 (.a 8 (.q 9 (.q 10 .nil))))))))))) (by kernel_rfl) (by kernel_rfl) ?_;refine ai ?_;refine bz [] (hA) ?_;refine ab ?_;refine U [0] (Hw) ?_;exact ⟨_,_,Wk.av aj,rfl,rfl⟩
    | false =>
     rw [if_neg (by rintro (h | h);(· cases h);(· simp at hz;omega))] at he;subst he;refine ab ?_;refine GW.draw (.q 0 (.q 1 (.q 2 (.q 3 (.q 4 (.q 5 (.q 6 (.q 7 (.a 8 (.q 9 (.q 10 .nil))))))))))) (by kernel_rfl) (by kernel_rfl) ?_;refine ai ?_;refine bz [] (hA) ?_;refine ab ?_;exact ⟨_,_,Wk.av aj,rfl,rfl⟩
  by_cases h8:kd=8
  ·subst h8
   have q2:((8:Int)==2)=false:=by decide
   have q7:((8:Int)==7)=false:=by decide
   have q3:((8:Int)==3)=false:=by decide
   have q8:((8:Int)==8)=true:=by decide
   rw [if_pos (by decide)] at he
   cases b with
   | true =>
    subst he;refine ab ?_;refine GW.draw (.q 0 (.q 1 (.q 2 (.q 3 (.q 4 (.q 5 (.q 6 (.q 7 (.a 8 (.q 9 (.q 10 .nil))))))))))) (by kernel_rfl) (by kernel_rfl) ?_;refine ai ?_;refine ab ?_;refine U [0] (Hw) ?_;exact ⟨_,_,Wk.av aj,rfl,rfl⟩
   | false =>
    cases hz:decide (z < 0) with
    | true =>
     rw [if_pos (.inr (by simpa using hz))] at he;subst he;refine ab ?_;refine GW.draw (.q 0 (.q 1 (.q 2 (.q 3 (.q 4 (.q 5 (.q 6 (.q 7 (.a 8 (.q 9 (.q 10 .nil))))))))))) (by kernel_rfl) (by kernel_rfl) ?_;refine ai ?_;refine bz [] (hA) ?_;refine ab ?_;refine U [0] (Hw) ?_;exact ⟨_,_,Wk.av aj,rfl,rfl⟩
    | false =>
     rw [if_neg (by rintro (h | h);(· cases h);(· simp at hz;omega))] at he;subst he;refine ab ?_;refine GW.draw (.q 0 (.q 1 (.q 2 (.q 3 (.q 4 (.q 5 (.q 6 (.q 7 (.a 8 (.q 9 (.q 10 .nil))))))))))) (by kernel_rfl) (by kernel_rfl) ?_;refine ai ?_;refine bz [] (hA) ?_;refine ab ?_;exact ⟨_,_,Wk.av aj,rfl,rfl⟩
  rw [if_neg (by rintro (h | h);(· exact h3 h);exact h8 h)] at he
  by_cases h4:kd=4
  ·subst h4
   have q2:((4:Int)==2)=false:=by decide
   have q7:((4:Int)==7)=false:=by decide
   have q3:((4:Int)==3)=false:=by decide
   have q8:((4:Int)==8)=false:=by decide
   have q4:((4:Int)==4)=true:=by decide
   rw [if_pos rfl] at he;subst he;refine ab ?_;refine U [0,1] (hC) ?_;exact ⟨_,_,Wk.av aj,rfl,rfl⟩
  rw [if_neg h4] at he;subst he
  have q2:(kd==2)=false:=by simpa using h2
  have q7:(kd==7)=false:=by simpa using h7
  have q3:(kd==3)=false:=by simpa using h3
  have q8:(kd==8)=false:=by simpa using h8
  have q4:(kd==4)=false:=by simpa using h4
  refine ab ?_;exact ⟨_,_,Wk.av aj,rfl,rfl⟩
 ·rintro _ _ ⟨rfl,rfl⟩;clear he hC PE Hw;obtain ⟨c1,d⟩:=P;simp only at ct |-;rw [<-ct] at eA;rw [show cC p (.slice ad c.ls.length cp) c1=cC p (.slice ad c1.ls.length cp) c1 by rw [ct],<-ct];clear hL;refine ab ?_;refine GW.range (aH l).length (fun k fr Γ=>∃ ad cp c2,fr=[.loc 0 0,.any,.any,.loc 2 0,.loc 3 0,.any,.v (.bool d),.any,.any,.any,.any,.any,.any,.any,.any,.any,.any,.any,.any,.any,.any,.any,.any,.any,.any,.any,.any,.any,.any,.any,.any,.any,.any,.any,.any,.any,.any,.any,.any,.any,.any,.any,.any,.any,.any,.any,.any,.any,.any,.any,.any,.any,.any,.any,.any,.any,.any,.any,.any,.any,.any,.any,.any,.any,.sl 6 (aH l),.v (ii ((aH l).length:Int)),.v (ii (k:Nat)),.any,.any,.any,.any,.any,.any,.any,.any,.any,.any,.any,.any,.any,.any,.any,.any,.any,.any,.any,.any,.any,.any,.any,.any,.any,.any,.any,.any,.any,.any,.any,.any,.any,.any,.any,.any,.any,.any,.any,.any,.any,.any,.any]/\Γ=[.box 108 (cC p (.slice ad c2.ls.length cp) c2),.vech 9 1 (aX c2.ls) (.slice ad c2.ls.length cp),.box 56 (cT (.mk n l)),.box 53 (au n)]/\c2=(if d=true then gZ p (l.take k) c1 else c1)) ?_ (by omega) ?_ ?_ ?_
  ·exact ⟨_,_,Wk.av aj,ad,cp,c1,rfl,rfl,by cases d <;> simp [gZ]⟩
  ·rintro k _ _ ⟨ad,cp,c2,rfl,rfl,_⟩;exact ⟨rfl,rfl,rfl⟩
  ·rintro k _ _ ao ⟨ad,cp,c2,rfl,rfl,jB⟩;rw [dQ] at ao;obtain ⟨u,hu⟩:∃ u,l[k]?=some u:=⟨l[k],by simp [ao]⟩;have hr:=cz hu;have b6:=jd hu
   cases d with
   | false =>
    refine ab ?_;exact ⟨rfl,rfl,_,_,(Wk.cut (n:=4) (Nat.le_of_ble_eq_true rfl) rfl).trans (Wk.av aj),ad,cp,c2,rfl,rfl,jB⟩
   | true =>
    rw [if_pos rfl] at jB;have hlen:=wx p (l.take k) c1;rw [<-jB] at hlen;have hi:=ih u (by omega) c2 ad cp (by omega);unfold cO at hi;rw [if_pos rfl,Mm p hu,<-jB];refine ab ?_;refine b9 [0,1] (hi) ?_;rintro _ _ ⟨rfl,gR,gT,rfl⟩;refine cU ?_;refine ab ?_;exact ⟨rfl,rfl,_,_,(Wk.cut (n:=4) (Nat.le_of_ble_eq_true rfl) rfl).trans (Wk.av aj),gR,gT,_,rfl,rfl,rfl⟩
  ·rintro _ _ ⟨ad,cp,c2,rfl,rfl,jB⟩;rw [dQ,take_length] at jB;rw [<-jB]
   have hlen:c2.ls.length<=8388608:=by
    rw [jB];split
    ·have:=wx p l c1;omega
    ·omega
   clear jB ih;refine aJ ?_;have hL:=gE c2.ls n.s (by omega);have Ex:=kc c2.ls;have Hv:=gX p (.slice ad c2.ls.length cp) c2 21 n.at_;have VH:=gX p (.slice ad c2.ls.length cp) c2 26 n.at_;have Zi:=c2.nI 21 n.at_;have Zj:=c2.nI 26 n.at_
   cases hv:(n.kind != 13) with
   | true =>
    have e:lD c2 n=c2:=by unfold lD;exact if_pos (by simpa using hv)
    rw [e];refine ab ?_;refine cl ?_;exact ⟨rfl,ad,cp,rfl⟩
   | false =>
    have A0:¬ n.kind≠13:=by simpa using hv
    unfold cC at Hv VH
    cases hb:c2.ls.contains n.s with
    | true =>
     rw [hb] at hL
     have e:lD c2 n=⟨(c2.fail 21 n.at_).ls++[n.s],(c2.fail 21 n.at_).code,(c2.fail 21 n.at_).at_⟩:=by unfold lD;rw [if_neg A0];exact if_pos hb
     rw [e];generalize c2.fail 21 n.at_=y at *;unfold cC;refine ab ?_;refine GW.draw (.q 0 (.q 1 (.q 2 (.q 3 (.q 4 (.q 5 (.a 6 .nil))))))) (by kernel_rfl) (by kernel_rfl) ?_;refine ai ?_;refine OA rfl rfl (GL.borrow hL (fun B K β w l hI hF=>fE (A:=[_]) (C:=[_,_]) hI hF rfl rfl) ?_);refine c8 ?_;refine ai ?_;refine ab ?_;refine U [0] (Hv) ?_;refine GW.draw (.q 0 (.q 1 (.q 2 (.q 3 (.q 4 (.q 5 (.q 6 (.a 7 (.a 8 (.q 9 (.q 10 (.a 11 .nil)))))))))))) (by kernel_rfl) (by kernel_rfl) ?_;refine ai ?_;refine dk ?_;refine ai ?_;refine OA rfl rfl (GL.nW 1 (news:=[[.v (sv n.s)]]) rfl rfl rfl (by first | rfl | assumption) rfl rfl (by refine ⟨?_,?_⟩;(· show _+1<=_;omega);(· show (_+1) * _<=_;omega)) ?_);intro mU mW;refine c8 ?_;refine ai ?_;refine ab ?_;refine cl ?_;exact ⟨rfl,mU,mW,by simp [cO,cC,aX,Zi]⟩
    | false =>
     rw [hb] at hL
     cases h40:((c2.ls.length:Int)==40) with
     | true =>
      have e:lD c2 n=⟨(c2.fail 26 n.at_).ls++[n.s],(c2.fail 26 n.at_).code,(c2.fail 26 n.at_).at_⟩:=by
       unfold lD;rw [if_neg A0,if_neg (by rw [hb];decide)];exact if_pos (by rw [beq_iff_eq] at h40;omega)
      rw [e];generalize c2.fail 26 n.at_=y at *;unfold cC;refine ab ?_;refine GW.draw (.q 0 (.q 1 (.q 2 (.q 3 (.q 4 (.q 5 (.a 6 .nil))))))) (by kernel_rfl) (by kernel_rfl) ?_;refine ai ?_;refine OA rfl rfl (GL.borrow hL (fun B K β w l hI hF=>fE (A:=[_]) (C:=[_,_]) hI hF rfl rfl) ?_);refine c8 ?_;refine ai ?_;refine ab ?_;refine U [0] (VH) ?_;refine GW.draw (.q 0 (.q 1 (.q 2 (.q 3 (.q 4 (.q 5 (.q 6 (.a 7 (.a 8 (.q 9 (.q 10 (.a 11 .nil)))))))))))) (by kernel_rfl) (by kernel_rfl) ?_;refine ai ?_;refine dk ?_;refine ai ?_;refine OA rfl rfl (GL.nW 1 (news:=[[.v (sv n.s)]]) rfl rfl rfl (by first | rfl | assumption) rfl rfl (by refine ⟨?_,?_⟩;(· show _+1<=_;omega);(· show (_+1) * _<=_;omega)) ?_);intro mU mW;refine c8 ?_;refine ai ?_;refine ab ?_;refine cl ?_;exact ⟨rfl,mU,mW,by simp [cO,cC,aX,Zj]⟩
     | false =>
      have e:lD c2 n=⟨c2.ls++[n.s],c2.code,c2.at_⟩:=by
       unfold lD;rw [if_neg A0,if_neg (by rw [hb];decide)];exact if_neg (by rw [beq_eq_false_iff_ne] at h40;omega)
      rw [e];unfold cC;refine ab ?_;refine GW.draw (.q 0 (.q 1 (.q 2 (.q 3 (.q 4 (.q 5 (.a 6 .nil))))))) (by kernel_rfl) (by kernel_rfl) ?_;refine ai ?_;refine OA rfl rfl (GL.borrow hL (fun B K β w l hI hF=>fE (A:=[_]) (C:=[_,_]) hI hF rfl rfl) ?_);refine c8 ?_;refine ai ?_;refine ab ?_;refine GW.draw (.q 0 (.q 1 (.q 2 (.q 3 (.q 4 (.q 5 (.q 6 (.a 7 (.a 8 (.q 9 (.q 10 (.a 11 .nil)))))))))))) (by kernel_rfl) (by kernel_rfl) ?_;refine ai ?_;refine dk ?_;refine ai ?_;refine OA rfl rfl (GL.nW 1 (news:=[[.v (sv n.s)]]) rfl rfl rfl (by first | rfl | assumption) rfl rfl (by refine ⟨?_,?_⟩;(· show _+1<=_;omega);(· show (_+1) * _<=_;omega)) ?_);intro mU mW;refine c8 ?_;refine ai ?_;refine ab ?_;refine cl ?_;exact ⟨rfl,mU,mW,by simp [cO,cC,aX]⟩
end Go.Xg
namespace Go.Xg
open Go.RowKit Go.Xw Go.Proofs
open Go.Xp (Nd T Ar aB aw)
open Go.Sp (Src)
open Go.Im
attribute [local irreducible] GW GL GO YG GC GA aQ aR
theorem BP (p:Src) (h:Value) (k e:Int):GF Tryz.prog 103 [.loc 0 0,.v (ii e),.v (ii 0)] [.box 108 (cC p h ⟨[],k,0⟩)] (.tup []) [.box 108 (cC p h ⟨[],fL k e,0⟩)]:=by
 have:=gX p h ⟨[],k,0⟩ e 0
 rwa [show (SS.fail ⟨[],k,0⟩ e 0)=⟨[],fL k e,0⟩ by unfold SS.fail fL;by_cases hk:k=0 <;> simp [hk]] at this
theorem EU (p:Src) (h:Value) (k:Int) (jg:p.arrays.length<=1048576) (b6:∀ a∈p.arrays,0<=a.size/\a.size<=2147483648)
  (rest:(p.arrays.all fun a=>!l0 a)=true->GF Tryz.prog 89 [.loc 0 0] [.box 108 (cC p h ⟨[],k,0⟩)] (.tup []) [.box 108 (cC p h ⟨[],qA p k,0⟩)]) :
  GF Tryz.prog 89 [.loc 0 0] [.box 108 (cC p h ⟨[],k,0⟩)] (.tup []) [.box 108 (cC p h ⟨[],qA p k,0⟩)]:=by
 cases tP:(p.arrays.all fun a=>!l0 a) with
 | true=>exact rest tP
 | false =>
 have dw:(p.arrays.map ay).length=p.arrays.length:=by simp
 have hb:=uq b6;have xn:=BP p h k 26
 have El:p.arrays.any l0=true:=by
  cases h0:p.arrays.any l0 with
  | true=>rfl
  | false =>
   rw [any_eq_false] at h0;rw [List.all_eq_false] at tP;obtain ⟨x,hx,h1⟩:=tP;have:=h0 x hx;simp at h1;rw [h1] at this;exact absurd rfl this
 rw [show qA p k=fL k 26 by unfold qA;exact if_pos El];unfold cC at xn |-;refine ah Tryz.func89 Tryz.ntmps89 ?_;refine GW.range (p.arrays.map ay).length (fun k' fr Γ=>fr=[.loc 0 0,.any,.v (ii (dC (p.arrays.take k'))),.any,.any,.any,.any,.any,.any,.any,.any,.any,.sl 2 (p.arrays.map ay),.v (ii ((p.arrays.map ay).length:Int)),.v (ii (k':Nat)),.any,.any,.any,.any,.any,.any,.any,.any,.any,.any,.any,.any,.any,.any,.any,.any,.any,.any,.any,.any,.any,.any,.any,.any,.any,.any,.any,.any,.any,.any,.any,.any,.any,.any,.any,.any,.any,.any,.any,.any,.any,.any,.any,.any,.any,.any,.any,.any,.any,.any,.any,.any,.any,.any,.any,.any,.any,.any,.any,.any,.any,.any,.any,.any,.any,.any,.any,.any,.any,.any,.any,.any,.any,.any,.any,.any,.any,.any,.any]/\Γ=[.box 108 [strs p.globals,.sl 2 (p.arrays.map ay),.sl 3 (p.fns.map aq),.sl 5 (p.nodes.map au),.v h,.v (ii k),.v (ii 0)]]/\(p.arrays.take k').all (fun a=>!l0 a)=true) ?_ (by omega) ?_ ?_ ?_
 ·exact ⟨_,_,Wk.av aj,rfl,rfl,rfl⟩
 ·rintro k' _ _ ⟨rfl,rfl,_⟩;exact ⟨rfl,rfl,rfl⟩
 ·rintro k' _ _ ao ⟨rfl,rfl,aK⟩;rw [dw] at ao;obtain ⟨x,hx⟩:∃ x,p.arrays[k']?=some x:=⟨p.arrays[k'],by simp [ao]⟩
  have hr:(p.arrays.map ay)[k']?=some (ay x):=by rw [getElem?_map,hx];rfl
  have bm:=lN (f:=l0) hx;have lH:=rN hx;have ej:=hb k';have rL:=b6 x (mem_of_getElem? hx);have hd:l0 x=(decide (x.size < 1) || decide (8000 < x.size)):=rfl;unfold ay at hr
  cases h1:decide (x.size < 1) with
  | true =>
   refine ab ?_;refine U [0] (xn) ?_;exact fm
  | false =>
   cases h2:decide (8000 < x.size) with
   | true =>
    refine ab ?_;refine U [0] (xn) ?_;exact fm
   | false =>
    rw [lH];generalize dC (p.arrays.take k')=c at *;refine ab ?_;exact ⟨rfl,rfl,_,_,(Wk.cut (n:=1) (Nat.le_refl _) rfl).trans (Wk.av aj),rfl,rfl,by rw [bm,aK,hd,h1,h2];rfl⟩
 ·rintro _ _ ⟨rfl,rfl,aK⟩;rw [dw,take_length] at aK;rw [aK] at tP;cases tP
end Go.Xg
namespace Go.Im
open Go.Xp Go.Sp
theorem QN (k e:Int) (he:e≠0):fL (fL k e) e=fL k e:=by unfold fL;by_cases h:k=0 <;> simp [h,he]
end Go.Im
namespace Go.Xg
open Go.RowKit Go.Xw Go.Proofs
open Go.Xp (Nd T Ar aB aw)
open Go.Sp (Src)
open Go.Im
attribute [local irreducible] GW GL GO YG GC GA aQ aR
theorem Dz (p:Src) (h:Value) (k:Int) (jg:p.arrays.length<=1048576) (iz:p.fns.length<=1048576) (b6:∀ a∈p.arrays,0<=a.size/\a.size<=2147483648) (tP:(p.arrays.all fun a=>!l0 a)=true) :
  GF Tryz.prog 89 [.loc 0 0] [.box 108 (cC p h ⟨[],k,0⟩)] (.tup []) [.box 108 (cC p h ⟨[],qA p k,0⟩)]:=by
 have dw:(p.arrays.map ay).length=p.arrays.length:=by simp
 have gV:(p.fns.map aq).length=p.fns.length:=by simp
 have fa:(p.globals.map fun s=>[GV.v (sv s)]).length=p.globals.length:=by simp
 have hb:=uq b6
 have El:p.arrays.any l0=false:=by
  rw [any_eq_false];rw [List.all_eq_true] at tP;intro x hx;simpa using tP x hx
 have xn:=BP p h;unfold cC at xn |-;refine ah Tryz.func89 Tryz.ntmps89 ?_;refine GW.range (p.arrays.map ay).length (fun k' fr Γ=>fr=[.loc 0 0,.any,.v (ii (dC (p.arrays.take k'))),.any,.any,.any,.any,.any,.any,.any,.any,.any,.sl 2 (p.arrays.map ay),.v (ii ((p.arrays.map ay).length:Int)),.v (ii (k':Nat)),.any,.any,.any,.any,.any,.any,.any,.any,.any,.any,.any,.any,.any,.any,.any,.any,.any,.any,.any,.any,.any,.any,.any,.any,.any,.any,.any,.any,.any,.any,.any,.any,.any,.any,.any,.any,.any,.any,.any,.any,.any,.any,.any,.any,.any,.any,.any,.any,.any,.any,.any,.any,.any,.any,.any,.any,.any,.any,.any,.any,.any,.any,.any,.any,.any,.any,.any,.any,.any,.any,.any,.any,.any,.any,.any,.any,.any,.any,.any]/\Γ=[.box 108 [strs p.globals,.sl 2 (p.arrays.map ay),.sl 3 (p.fns.map aq),.sl 5 (p.nodes.map au),.v h,.v (ii k),.v (ii 0)]]) ?_ (by omega) ?_ ?_ ?_
 ·exact ⟨_,_,Wk.av aj,rfl,rfl⟩
 ·rintro k' _ _ ⟨rfl,rfl⟩;exact ⟨rfl,rfl,rfl⟩
 ·rintro k' _ _ ao ⟨rfl,rfl⟩;rw [dw] at ao;obtain ⟨x,hx⟩:∃ x,p.arrays[k']?=some x:=⟨p.arrays[k'],by simp [ao]⟩
  have hr:(p.arrays.map ay)[k']?=some (ay x):=by rw [getElem?_map,hx];rfl
  have lH:=rN hx;have ej:=hb k';have rL:=b6 x (mem_of_getElem? hx)
  have hd:l0 x=false:=by
   rw [any_eq_false] at El;have:=El x (mem_of_getElem? hx);simpa using this
  unfold l0 at hd;rw [Bool.or_eq_false_iff] at hd;obtain ⟨h1,h2⟩:=hd;have h2:decide (8000 < x.size)=false:=h2;unfold ay at hr;rw [lH];generalize dC (p.arrays.take k')=c at *;refine ab ?_;exact ⟨rfl,rfl,_,_,(Wk.cut (n:=1) (Nat.le_refl _) rfl).trans (Wk.av aj),rfl,rfl⟩
 ·rintro _ _ ⟨rfl,rfl⟩;rw [dw,take_length];refine aJ ?_;refine GW.seq ?_;have e1:decide (p.fns.length > 40)=decide ((40:Int) < ((p.fns.map aq).length:Int)):=decide_eq_decide.2 (by rw [gV];omega);have e2:decide (p.globals.length > 29)=decide ((29:Int) < ((p.globals.map fun s=>[GV.v (sv s)]).length:Int)):=decide_eq_decide.2 (by omega)
  have WM:sq p=((decide ((40:Int) < ((p.fns.map aq).length:Int)) || decide ((29:Int) < ((p.globals.map fun s=>[GV.v (sv s)]).length:Int))) || decide ((8000:Int) < dC p.arrays)):=by unfold sq;rw [e1,e2]
  refine GW.join (fun fr Γ=>fr=[.loc 0 0,.any,.any,.any,.any,.any,.any,.any,.any,.any,.any,.any,.any,.any,.any,.any,.any,.any,.any,.any,.any,.any,.any,.any,.any,.any,.any,.any,.any,.any,.any,.any,.any,.any,.any,.any,.any,.any,.any,.any,.any,.any,.any,.any,.any,.any,.any,.any,.any,.any,.any,.any,.any,.any,.any,.any,.any,.any,.any,.any,.any,.any,.any,.any,.any,.any,.any,.any,.any,.any,.any,.any,.any,.any,.any,.any,.any,.any,.any,.any,.any,.any,.any,.any,.any,.any,.any,.any,.any,.any,.any,.any,.any,.any]/\Γ=[.box 108 [strs p.globals,.sl 2 (p.arrays.map ay),.sl 3 (p.fns.map aq),.sl 5 (p.nodes.map au),.v h,.v (ii (if sq p=true then fL k 26 else k)),.v (ii 0)]]) ?_ ?_
  ·rw [WM];have Jb:=xn k 26;generalize dC p.arrays=c at *
   cases h1:decide ((40:Int) < ((p.fns.map aq).length:Int))
   all_goals cases h2:decide ((29:Int) < ((p.globals.map fun s=>[GV.v (sv s)]).length:Int))
   all_goals cases h3:decide ((8000:Int) < c)
   all_goals
    refine ab ?_
    first
     | exact ⟨_,_,Wk.av aj,rfl,rfl⟩
     | (refine gm [0] (Jb) ?_;refine ab ?_;exact ⟨_,_,Wk.av aj,rfl,rfl⟩)
  ·rintro _ _ ⟨rfl,rfl⟩;generalize tR:(if sq p=true then fL k 26 else k)=k1
   have UQ:∀ j:Nat,∀ x:Go.Sp.Fn,p.fns[j]?=some x->(p.fns.take (j+1)).any (fun f=>decide (f.params.length > 40))=((p.fns.take j).any (fun f=>decide (f.params.length > 40)) || decide (x.params.length > 40)):=fun j x hx=>by
    rw [take_add_one,hx,List.any_append];simp
   refine ab ?_;refine GW.range (p.fns.map aq).length (fun j fr Γ=>∃ kk,fr=[.loc 0 0,.any,.any,.any,.any,.any,.any,.any,.any,.any,.any,.any,.any,.any,.any,.any,.any,.any,.any,.any,.any,.any,.any,.any,.any,.any,.any,.any,.any,.any,.any,.any,.any,.any,.any,.any,.any,.any,.any,.any,.any,.any,.any,.any,.any,.any,.any,.any,.any,.any,.any,.any,.any,.any,.any,.any,.any,.any,.any,.sl 3 (p.fns.map aq),.v (ii ((p.fns.map aq).length:Int)),.v (ii (j:Nat)),.any,.any,.any,.any,.any,.any,.any,.any,.any,.any,.any,.any,.any,.any,.any,.any,.any,.any,.any,.any,.any,.any,.any,.any,.any,.any,.any,.any,.any,.any,.any,.any]/\Γ=[.box 108 [strs p.globals,.sl 2 (p.arrays.map ay),.sl 3 (p.fns.map aq),.sl 5 (p.nodes.map au),.v h,.v (ii kk),.v (ii 0)]]/\kk=(if (p.fns.take j).any (fun f=>decide (f.params.length > 40))=true then fL k1 26 else k1)) ?_ (by omega) ?_ ?_ ?_
   ·exact ⟨_,_,Wk.av aj,k1,rfl,rfl,by simp⟩
   ·rintro j _ _ ⟨kk,rfl,rfl,_⟩;exact ⟨rfl,rfl,rfl⟩
   ·rintro j _ _ ao ⟨kk,rfl,rfl,iC⟩;rw [gV] at ao;obtain ⟨x,hx⟩:∃ x,p.fns[j]?=some x:=⟨p.fns[j],by simp [ao]⟩
    have hr:(p.fns.map aq)[j]?=some (aq x):=by rw [getElem?_map,hx];rfl
    have ct:(x.params.map fun s=>[GV.v (sv s)]).length=x.params.length:=by simp
    have p8:=UQ j x hx;have hd:decide (x.params.length > 40)=decide ((40:Int) < ((x.params.map fun s=>[GV.v (sv s)]).length:Int)):=decide_eq_decide.2 (by omega);have Jb:=xn kk 26;rw [p8,hd];unfold aq at hr
    cases h1:decide ((40:Int) < ((x.params.map fun s=>[GV.v (sv s)]).length:Int)) with
    | true =>
     have e:fL kk 26=fL k1 26:=by rw [iC];split;(· exact QN _ _ (by decide));rfl
     rw [e] at Jb;refine ab ?_;refine U [0] (Jb) ?_;exact ⟨rfl,rfl,_,_,(Wk.cut (n:=1) (Nat.le_refl _) rfl).trans (Wk.av aj),_,rfl,rfl,by simp⟩
    | false =>
     refine ab ?_;exact ⟨rfl,rfl,_,_,(Wk.cut (n:=1) (Nat.le_refl _) rfl).trans (Wk.av aj),kk,rfl,rfl,by rw [iC,Bool.or_false]⟩
   ·rintro _ _ ⟨kk,rfl,rfl,iC⟩;rw [gV,take_length] at iC
    have hs:qA p k=(if jy p=true then fL kk 25 else kk):=by
     unfold qA;rw [if_neg (by rw [El];decide),tR,<-iC]
    rw [hs];refine aJ ?_;have Sy:=xn kk 25;have hM:=HP p vf (by omega);unfold cB at hM;clear hs iC tR
    cases hx:p.fns.findIdx? (fun f:Go.Sp.Fn=>f.name==vf) with
    | none =>
     rw [hx] at hM
     have hd:decide ((-1:Int) < 0)=true:=by decide
     simp only at hM;rw [show (if jy p=true then fL kk 25 else kk)=fL kk 25 from if_pos (by unfold jy;rw [hx])];refine ab ?_;refine U [] (hM) ?_;refine U [0] (Sy) ?_;exact fm
    | some i =>
     rw [hx] at hM;have hi:i < p.fns.length:=(List.findIdx?_eq_some_iff_getElem.1 hx).1;obtain ⟨f,hf⟩:∃ f,p.fns[i]?=some f:=⟨p.fns[i],by simp [hi]⟩
     have hr:(p.fns.map aq)[i]?=some (aq f):=by rw [getElem?_map,hf];rfl
     have ct:(f.params.map fun s=>[GV.v (sv s)]).length=f.params.length:=by simp
     have hd:decide (((i:Nat):Int) < 0)=false:=by simp
     have kq:decide (lu p i > 0)=decide ((0:Int) < ((f.params.map fun s=>[GV.v (sv s)]).length:Int)):=by
      unfold lu;rw [hf];exact decide_eq_decide.2 (by simp only;omega)
     simp only at hM
     have pZ:jy p=decide (lu p i > 0):=by unfold jy;rw [hx]
     rw [kq] at pZ;unfold aq at hr
     cases h1:decide ((0:Int) < ((f.params.map fun s=>[GV.v (sv s)]).length:Int)) with
     | true =>
      rw [show (if jy p=true then fL kk 25 else kk)=fL kk 25 from if_pos (by rw [pZ,h1])];refine ab ?_;refine U [] (hM) ?_;refine U [0] (Sy) ?_;exact fm
     | false =>
      rw [show (if jy p=true then fL kk 25 else kk)=kk from if_neg (by rw [pZ,h1];decide)];refine ab ?_;refine U [] (hM) ?_;exact fm
end Go.Xg
namespace Go.Im
open Go.Xp Go.Sp
theorem NM (p:Src) (l:List T) (c:SS):na p [] l c=c:=by unfold na;rfl
end Go.Im
namespace Go.Xg
open Go.RowKit Go.Xw Go.Proofs
open Go.Xp (Nd T Ar aB aw)
open Go.Sp (Src)
open Go.Im
attribute [local irreducible] GW GL GO YG GC GA aQ aR
theorem J8 (p:Src) (hF:GF Tryz.prog 87 [.agg (ak p)] [] (.v (.bool false)) []):GF Tryz.prog 71 [.agg (ak p)] [] (.tup [.v (ii 20),.v (ii 0)]) []:=by
 refine ah Tryz.func71 Tryz.ntmps71 ?_;refine U [] (hF) ?_;exact ew
theorem IA (p:Src) (l:List T) (c1 c2:SS) (gV:p.fns.length=l.length) (iz:p.fns.length<=1048576) (jg:p.arrays.length<=1099511627776) (fa:p.globals.length<=1099511627776)
  (nj:∀ f∈p.fns,f.params.length<=1048576) (b6:∀ t∈l,aB t<=1048576)
  (hF:GF Tryz.prog 87 [.agg (ak p)] [] (.v (.bool true)) [])
  (hN:GF Tryz.prog 88 [.loc 0 0] [.box 108 (cC p (.slice none 0 0) ⟨[],0,0⟩)] (.tup []) [.box 108 (cC p (.slice none 0 0) c1)])
  (hS:GF Tryz.prog 89 [.loc 0 0] [.box 108 (cC p (.slice none 0 0) c1)] (.tup []) [.box 108 (cC p (.slice none 0 0) c2)])
  (pB:∀ (i:Nat) (f:Go.Sp.Fn) (t:T),p.fns[i]?=some f->l[i]?=some t->GF Tryz.prog 60 [.agg (ak p),.v (ii f.body)] [] (.agg (cT t)) []) :
  GF Tryz.prog 71 [.agg (ak p)] [] (.tup [.v (ii (na p p.fns l c2).code),.v (ii (na p p.fns l c2).at_)]) []:=by
 have Hz:(p.fns.map aq).length=p.fns.length:=by simp
 unfold cC at hN hS;refine ah Tryz.func71 Tryz.ntmps71 ?_;refine U [] (hF) ?_;refine U [1] (hN) ?_;refine U [1] (hS) ?_;refine GW.range (p.fns.map aq).length (fun k fr Γ=>∃ h c,fr=[.any,.loc 0 0,.any,.any,.loc 1 0,.any,.any,.any,.any,.any,.any,.any,.any,.any,.any,.any,.any,.any,.sl 3 (p.fns.map aq),.v (ii ((p.fns.map aq).length:Int)),.v (ii (k:Nat)),.any,.any,.any,.any,.any,.any,.any,.any,.any,.any,.any,.any,.any,.any,.any,.any,.any,.any,.any,.any,.any,.any,.any,.any,.any,.any]/\Γ=[.box 34 (ak p),.box 108 (cC p h c)]/\na p p.fns l c2=na p (p.fns.drop k) (l.drop k) c) ?_ (by omega) ?_ ?_ ?_
 ·exact ⟨_,_,Wk.av aj,_,c2,rfl,rfl,rfl⟩
 ·rintro k _ _ ⟨h,c,rfl,rfl,_⟩;exact ⟨rfl,rfl,rfl⟩
 ·rintro k _ _ ao ⟨h,c,rfl,rfl,he⟩;rw [Hz] at ao;obtain ⟨f,hf⟩:∃ f,p.fns[k]?=some f:=⟨p.fns[k],by simp [ao]⟩;obtain ⟨t,ht⟩:∃ t,l[k]?=some t:=⟨l[k]'(by omega),getElem?_eq_getElem _⟩
  have hr:(p.fns.map aq)[k]?=some (aq f):=by rw [getElem?_map,hf];rfl
  have Lw:p.fns.drop k=f::p.fns.drop (k+1):=by rw [List.drop_eq_getElem_cons ao];rw [getElem?_eq_getElem ao] at hf;rw [Option.some.inj hf]
  have dq:l.drop k=t::l.drop (k+1):=by rw [List.drop_eq_getElem_cons (by omega)];rw [getElem?_eq_getElem (by omega)] at ht;rw [Option.some.inj ht]
  have hp:=nj f (mem_of_getElem? hf);have hz:=b6 t (mem_of_getElem? ht);have Ta:=pB k f t hf ht;have hP:=Gx p h c f hp;rw [Lw,dq,na] at he
  cases hc:(c.code==0) with
  | false =>
   rw [if_neg (by simpa using hc)] at he;unfold cC aq at *;refine ab ?_;exact ⟨rfl,rfl,_,_,(Wk.cut (n:=2) (Nat.zero_le _) rfl).trans (Wk.av aj),h,c,rfl,rfl,he⟩
  | true =>
   rw [if_pos (by simpa using hc)] at he
   have VM:=fun ad cp=>L7 p jg (by omega) fa _ t (Nat.le_refl _) (pK f c) ad cp (by show f.params.length+_<=_;omega)
   rw [he];generalize mO p t (pK f c)=c3 at *;unfold cO at VM;unfold aq at hr hP;rw [show cC p h c=[strs p.globals,.sl 2 (p.arrays.map ay),.sl 3 (p.fns.map aq),.sl 5 (p.nodes.map au),.v h,.v (ii c.code),.v (ii c.at_)] from rfl] at *;refine ab ?_;refine b9 [1] (hP) ?_;rintro _ _ ⟨rfl,ad,cp,rfl⟩;refine cU ?_;refine ab ?_;refine U [] (Ta) ?_;refine b9 [1,3] (VM ad cp) ?_;rintro _ _ ⟨rfl,gR,gT,rfl⟩;refine cU ?_;refine ab ?_;exact ⟨rfl,rfl,_,_,(Wk.cut (n:=2) (Nat.zero_le _) rfl).trans (Wk.av aj),_,c3,rfl,rfl,rfl⟩
 ·rintro _ _ ⟨h,c,rfl,rfl,he⟩;rw [Hz,List.drop_length,NM] at he;rw [he];unfold cC;refine aJ ?_;refine ab ?_;refine GW.draw (.q 0 (.q 1 (.q 2 (.q 3 (.q 4 (.q 5 (.q 6 (.q 7 (.q 8 (.q 9 .nil)))))))))) (by kernel_rfl) (by kernel_rfl) ?_;refine ai ?_;exact l7
end Go.Xg
namespace Go.Xg
open Go.RowKit Go.Xw Go.Proofs
open Go.Xp (Nd T Ar aB aw cR)
open Go.Sp (Src)
open Go.Im
attribute [local irreducible] GW GL GO YG GC GA aQ aR
theorem L8:∀ (N:Nat) (t:T),aB t<=N->∀ (out:List ae) (ad:Option Addr) (cp:Nat),out.length+aB t<=8388608 ->
  GC Tryz.prog 81 [.v (.slice ad out.length cp),.agg (cT t)] [.vech 9 1 (aX out) (.slice ad out.length cp)] fun g Δ=>∃ gR gT,g=.v (.slice gR (out++bP t).length gT)/\Δ=[.vech 9 1 (aX (out++bP t)) (.slice gR (out++bP t).length gT)]:=by
 intro N
 induction N with
 | zero=>intro t h;have:=gO t;omega
 | succ N ih =>
 intro t hN out ad cp eA
 cases t with
 | mk n l =>
 rw [Go.Xp.aB] at hN eA;have oS:=cR l;have dQ:(aH l).length=l.length:=aL l;rw [bP];refine ah Tryz.func81 Tryz.ntmps81 ?_;refine GW.range (aH l).length (fun k fr Γ=>∃ ad cp o,fr=[.v (.slice ad o.length cp),.any,.any,.loc 1 0,.any,.any,.any,.any,.sl 6 (aH l),.v (ii ((aH l).length:Int)),.v (ii (k:Nat)),.any,.any,.any,.any,.any,.any,.any,.any,.any,.any,.any,.any,.any,.any,.any,.any,.any,.any]/\Γ=[.vech 9 1 (aX o) (.slice ad o.length cp),.box 56 (cT (.mk n l))]/\o=out++bX (l.take k)) ?_ (by omega) ?_ ?_ ?_
 ·exact ⟨_,_,Wk.av aj,ad,cp,out,rfl,rfl,by simp [bX]⟩
 ·rintro k _ _ ⟨ad,cp,o,rfl,rfl,_⟩;exact ⟨rfl,rfl,rfl⟩
 ·rintro k _ _ ao ⟨ad,cp,o,rfl,rfl,ho⟩;rw [dQ] at ao;obtain ⟨u,hu⟩:∃ u,l[k]?=some u:=⟨l[k],by simp [ao]⟩;have hr:=cz hu;have b6:=jd hu
  have hlen:o.length<=out.length+aw (l.take k):=by rw [ho,length_append];have:=gY (l.take k);omega
  have hi:=ih u (by omega) o ad cp (by omega)
  have p8:out++bX (l.take (k+1))=o++bP u:=by rw [zu hu,ho,append_assoc]
  rw [p8];refine ab ?_;refine b9 [0] (hi) ?_;rintro _ _ ⟨gR,gT,rfl,rfl⟩;refine cU ?_;refine ab ?_;exact ⟨rfl,rfl,_,_,(Wk.cut (n:=2) (Nat.le_of_ble_eq_true rfl) rfl).trans (Wk.av aj),gR,gT,_,rfl,rfl,rfl⟩
 ·rintro _ _ ⟨ad,cp,o,rfl,rfl,ho⟩;rw [dQ,take_length] at ho
  have hlen:o.length<=out.length+aw l:=by rw [ho,length_append];have:=gY l;omega
  have Ex:=kc o;rw [<-append_assoc,<-ho];clear ho ih;refine aJ ?_
  cases hv:(n.kind==13) with
  | false =>
   rw [if_neg (by simpa using hv),append_nil];refine ab ?_
   (repeat (first | refine GW.ret ?_ | refine cL ?_ | refine cK ?_ | refine aJ ?_ | refine b7 ?_))
   exact ql (n:=1) rfl (by first | exact .inr rfl | exact .inl rfl) rfl (Nat.le_of_ble_eq_true rfl) rfl rfl ⟨ad,cp,rfl,rfl⟩
  | true =>
   rw [if_pos (by simpa using hv)];refine ab ?_;refine GL.qM 0 rfl rfl rfl rfl rfl rfl rfl rfl (by first | rfl | assumption) ⟨⟨by omega,by omega⟩,by decide⟩ ?_;intro mU mW;refine cS ?_;refine ab ?_
   (repeat (first | refine GW.ret ?_ | refine cL ?_ | refine cK ?_ | refine aJ ?_ | refine b7 ?_))
   exact ql (n:=1) rfl (by first | exact .inr rfl | exact .inl rfl) rfl (Nat.le_of_ble_eq_true rfl) rfl rfl ⟨mU,mW,by show GV.v (.slice mU ((aX o).length+1) mW)=_;simp [aX],by show [Ob.vech _ 1 (aX o++[[.v (sv n.s)]]) (.slice mU ((aX o).length+1) mW)]=_;simp [aX]⟩
end Go.Xg
namespace Go.Xg
open Go.RowKit Go.Xw Go.Proofs
section
variable {P:Program} {m:Nat} {ops:Array Oper} {Q:dR} {rest:List Oper} {fr:List GV} {Γ:List Ob}
theorem MX {o:Oper} {a:Act} {next next':Act->World->Prop} {Q Q':Exit->Act->World->Prop} (hn:∀ a w,next a w->next' a w) (hq:∀ e a w,Q e a w->Q' e a w):∀ r,o.upon P a next Q r->o.upon P a next' Q' r:=by
 have hl:LetsOut Q->LetsOut Q':=fun ⟨a,w,h⟩=>⟨a,w,hq _ _ _ h⟩
 intro r h;unfold Oper.upon at h |-;split at h
 ·exact hn _ _ h
 ·exact hn _ _ h
 ·exact hn _ _ h
 ·refine Calls.mono h fun e w' he=>?_
  cases e with
  | returned v=>exact hn _ _ he
  | panicked ch=>exact hq _ _ _ he
  | outgrown=>exact hl he
 ·exact Rows.mono h fun v w' hv=>hn _ _ hv
 ·exact hq _ _ _ h
 ·exact h
theorem zw {Q Q':Exit->Act->World->Prop} (hq:∀ e a w,Q e a w->Q' e a w):∀ (l:List Oper) (a:Act) (w:World),wpList P ops Q l a w->wpList P ops Q' l a w
 | [],a,w,h=>hq _ _ _ h
 | o::l,a,w,h=>by
  have ih:=zw hq l;unfold wpList at h |-;split at h
  ·rename_i hw;rw [if_pos hw]
   rcases h with h | ⟨h1,h2⟩
   ·exact .inl (MX ih hq _ h)
   ·exact .inr ⟨h1,by obtain ⟨a,w,h⟩:=h2;exact ⟨a,w,hq _ _ _ h⟩⟩
  ·rename_i hw;rw [if_neg hw];exact ih _ _ h
theorem GL.mono {Q':dR} (h:GL P m ops Q rest fr Γ) (hq:∀ e fr Γ,Q e fr Γ->Q' e fr Γ):GL P m ops Q' rest fr Γ:=fun B K β w l hm hI hF =>
 zw (fun e a w ⟨l,ha,K,β,fr,Γ,hI,hF,q⟩=>⟨l,ha,K,β,fr,Γ,hI,hF,hq _ _ _ q⟩) _ _ _ (h B K β w l hm hI hF)
theorem GL.UZ {z y:Code} (K:List GV->List Ob->Prop) (h1:GL P m ops (aQ (GW P m z (aQ (yP m K) Q)) Q) rest fr Γ) (h2:∀ fr Γ,K fr Γ->GW P m y Q fr Γ):GL P m ops (aQ (GW P m z (aQ (GW P m y Q) Q)) (aQ (GW P m y Q) Q)) rest fr Γ:=by
 refine h1.mono fun e fr Γ hq=>?_
 cases e with
 | normal=>exact GW.join K hq h2
 | _=>exact hq
theorem GL.zO {t i n E k:Nat} {rows:List (List GV)} (ht:cq fr t=.vec i n) (gW:ju fr t=true) (br:Γ[i]?=some (.vec E k 0 rows)) (hn:rows.length=n)
  (h:∀ a c,GL P m ops Q rest (bg fr t (.v (.slice a n c))) (oset Γ i (.vech E k rows (.slice a n c)))):GL P m ops Q rest fr Γ:=fun B K β w l hm hI hF=>by
 subst hn;obtain ⟨a,c,hb,bc⟩:=hI.zO br
 have hv:nth l t=.slice a rows.length c:=by
  have:=hF.nth t;rw [ht] at this;generalize nth l t=x at this
  cases this with
  | vec i n a' c' h =>
   obtain ⟨h0,m0,e1,_,e3⟩:=h;rw [hb] at e1;cases e1;exact e3 rfl
 have:=hF.eM t (Rel.v (K:=K) (β:=β) (.slice a rows.length c));rw [<-hv,Ai (mc hF gW),hv] at this;exact h a c B K β w l hm bc this
end
end Go.Xg
namespace Go.Im
open Go.Xp Go.Sp
theorem yR (names:List ae) (u:T):∀ (l:List T) (known:List ae),fg names (l++[u]) known=fg names l known++[iN names u (known++bX l)]
 | [],known=>by simp [fg,bX]
 | t::l,known=>by rw [cons_append,fg,yR names u l,fg,bX,append_assoc];rfl
theorem Gj (names:List ae) {l:List T} {k:Nat} {u:T} (h:l[k]?=some u) (known:List ae):fg names (l.take (k+1)) known=fg names (l.take k) known++[iN names u (known++bX (l.take k))]:=by
 rw [take_add_one,h];exact yR names u _ known
def JL (names:List ae) (n:Nd) (known:List ae):Int:=if (n.kind=2\/n.kind=7)/\known.contains n.s=true then uK names n.s+1 else n.n
theorem Ns {names:List ae} {n:Nd} {known:List ae} (h:n.kind=13):ki names n known=⟨n.kind,n.at_,uK names n.s+1,n.s,n.kids⟩:=by unfold ki;rw [if_pos h]
theorem Nt {names:List ae} {n:Nd} {known:List ae} (h:¬ n.kind=13):ki names n known=⟨n.kind,n.at_,JL names n known,n.s,n.kids⟩:=by
 unfold ki JL;rw [if_neg h];split <;> rfl
theorem R0 (names:List ae) (s:ae) : -1<=uK names s/\uK names s<=(names.length:Int):=by
 unfold uK cB
 cases h:names.findIdx? (fun x=>x==s) with
 | none=>simp only;omega
 | some i =>
  rw [List.findIdx?_eq_some_iff_getElem] at h;obtain ⟨h,_⟩:=h;simp only;omega
end Go.Im
namespace Go.Xg
open Go.RowKit Go.Xw Go.Proofs
open Go.Xp (Nd T Ar aB aw cR)
open Go.Sp (Src)
open Go.Im
attribute [local irreducible] GW GL GO YG GC GA aQ aR
theorem L9 (names:List ae) (ek:names.length<=1099511627776):∀ (N:Nat) (t:T),aB t<=N->∀ (known:List ae),known.length+aB t<=8388608 ->
  GF Tryz.prog 58 [strs names,strs known,.agg (cT t)] [] (.tup [.agg (cT (iN names t known)),strs (known++bP t)]) []:=by
 intro N
 induction N with
 | zero=>intro t h;have:=gO t;omega
 | succ N ih =>
 intro t hN known eA
 cases t with
 | mk n l =>
 rw [Go.Xp.aB] at hN eA;have oS:=cR l;have dQ:(aH l).length=l.length:=aL l;have hL:=gE known n.s (by omega);have hA:=QY names n.s ek;have hAl:=R0 names n.s;rw [iN,bP];obtain ⟨pn,cW⟩:∃ pn,JL names n known=pn:=⟨_,rfl⟩;have sH:=cW;unfold JL at sH;refine ah Tryz.func58 Tryz.ntmps58 ?_;refine GL.UZ (fun fr Γ=>fr=[strs names,strs known,.any,.any,.any,.loc 0 0,.loc 1 0,.any,.loc 2 0,.any,.any,.any,.any,.any,.any,.any,.any,.any,.any,.any,.any,.any,.any,.any,.any,.any,.any,.any,.any,.any,.any,.any,.any,.any,.any,.any,.any,.any,.any,.any,.any,.any,.any,.any,.any,.any,.any,.any,.any,.any,.any,.any,.any,.any,.any,.any,.any,.any,.any,.any,.any,.any,.any,.any,.any,.any,.any,.any,.any,.any,.any,.any,.any,.any,.any,.any,.any,.any,.any,.any,.any,.any,.any,.any,.any]/\Γ=[.box 56 (cT (.mk n l)),.box 56 zT,.box 56 [.v (ii n.kind),.v (ii n.at_),.v (ii pn),.v (sv n.s),ints n.kids,.v (.slice none 0 0)]]) ?_ ?_
 ·generalize uK names n.s=an at *
  cases q2:(n.kind==2) with
  | true =>
   cases h3:known.contains n.s with
   | true =>
    rw [h3] at hL;rw [if_pos ⟨.inl (by simpa using q2),h3⟩] at sH;subst sH;refine ab ?_;refine U [] (hL) ?_;refine U [] (hA) ?_;exact ⟨_,_,Wk.av aj,rfl,rfl⟩
   | false =>
    rw [h3] at hL;rw [if_neg (by rw [h3];simp)] at sH;subst sH;refine ab ?_;refine U [] (hL) ?_;exact ⟨_,_,Wk.av aj,rfl,rfl⟩
  | false =>
   cases q7:(n.kind==7) with
   | true =>
    cases h3:known.contains n.s with
    | true =>
     rw [h3] at hL;rw [if_pos ⟨.inr (by simpa using q7),h3⟩] at sH;subst sH;refine ab ?_;refine U [] (hL) ?_;refine U [] (hA) ?_;exact ⟨_,_,Wk.av aj,rfl,rfl⟩
    | false =>
     rw [h3] at hL;rw [if_neg (by rw [h3];simp)] at sH;subst sH;refine ab ?_;refine U [] (hL) ?_;exact ⟨_,_,Wk.av aj,rfl,rfl⟩
   | false =>
    rw [if_neg (by rintro ⟨h | h,_⟩;(· rw [h] at q2;cases q2);rw [h] at q7;cases q7)] at sH;subst sH;refine ab ?_;exact ⟨_,_,Wk.av aj,rfl,rfl⟩
 ·rintro _ _ ⟨rfl,rfl⟩;refine GW.wk (Wk.Fh (i:=2) (o:=5) 56 6 rfl rfl) ?_;simp only [bg,oset,cons_append,nil_append];refine ab ?_
  refine GW.range (aH l).length (fun k fr Γ=>∃ rows kn,fr=[strs names,strs kn,.any,.any,.any,.loc 0 0,.loc 1 0,.any,.loc 2 0,.any,.any,.any,.any,.any,.any,.any,.any,.any,.any,.any,.any,.any,.any,.any,.any,.any,.any,.any,.any,.any,.any,.any,.any,.any,.any,.any,.any,.any,.any,.any,.any,.any,.sl 6 (aH l),.v (ii ((aH l).length:Int)),.v (ii (k:Nat)),.any,.any,.any,.any,.any,.any,.any,.any,.any,.any,.any,.any,.any,.any,.any,.any,.any,.any,.any,.any,.any,.any,.any,.any,.any,.any,.any,.any,.any,.any,.any,.any,.any,.any,.any,.any,.any,.any,.any,.any] /\
   Γ=[.box 56 (cT (.mk n l)),.box 56 zT,.box 56 [.v (ii n.kind),.v (ii n.at_),.v (ii pn),.v (sv n.s),ints n.kids,.vec 3 k],.vec 56 6 0 rows] /\
   rows.length=k/\rows=aH (fg names (l.take k) known)/\kn=known++bX (l.take k)) ?_ (by omega) ?_ ?_ ?_
  ·exact ⟨_,_,Wk.av aj,[],known,rfl,rfl,rfl,by rw [List.take_zero,fg];rfl,by simp [bX]⟩
  ·rintro k _ _ ⟨_,_,rfl,rfl,_⟩;exact ⟨rfl,rfl,rfl⟩
  ·rintro k _ _ ao ⟨rows,kn,rfl,rfl,sJ,bj,ng⟩;rw [dQ] at ao;obtain ⟨u,hu⟩:∃ u,l[k]?=some u:=⟨l[k],by simp [ao]⟩;have hr:=cz hu;have b6:=jd hu
   have hlen:kn.length<=known.length+aw (l.take k):=by rw [ng,length_append];have:=gY (l.take k);omega
   have hi:=ih u (by omega) kn (by omega)
   have p8:known++bX (l.take (k+1))=kn++bP u:=by rw [zu hu,ng,append_assoc]
   have YL:aH (fg names (l.take (k+1)) known)=rows++[cT (iN names u kn)]:=by
    rw [Gj names hu,tL,<-bj,<-ng];first | done | simp only [aH,rX]
   rw [p8,YL];clear bj ng;generalize iN names u kn=bu at *;refine ab ?_;refine U [] (hi) ?_;refine ea ?_;refine ab ?_;exact ⟨rfl,rfl,_,_,(Wk.cut (n:=4) (Nat.le_of_ble_eq_true rfl) rfl).trans (Wk.av aj),_,_,rfl,rfl,by rw [length_append,sJ];rfl,rfl,rfl⟩
  ·rintro _ _ ⟨rows,kn,rfl,rfl,sJ,bj,ng⟩;rw [dQ,take_length] at bj ng;rw [dQ] at sJ |-;rw [<-append_assoc,<-ng]
   have ef:kn.length<=known.length+aw l:=by rw [ng,length_append];have:=gY l;omega
   have ZK:kn.length * 16<=140737488355328:=by omega
   refine aJ (GW.wk (Wk.wG (i:=2) (o:=5) rfl rfl rfl rfl sJ) ?_);simp only [bg,oset];refine GW.D5 (bM:=[strs names,strs kn,.any,.any,.any,.loc 0 0,.loc 1 0,.any,.loc 2 0,.any,.any,.any,.any,.any,.any,.any,.any,.any,.any,.any,.any,.any,.any,.any,.any,.any,.any,.any,.any,.any,.any,.any,.any,.any,.any,.any,.any,.any,.any,.any,.any,.any,.any,.any,.any,.any,.any,.any,.any,.any,.any,.any,.any,.any,.any,.any,.any,.any,.any,.any,.any,.any,.any,.any,.any,.any,.any,.any,.any,.any,.any,.any,.any,.any,.any,.any,.any,.any,.any,.any,.any,.any,.any,.any,.any]) (aD:=[.box 56 (cT (.mk n l)),.box 56 zT,.box 56 [.v (ii n.kind),.v (ii n.at_),.v (ii pn),.v (sv n.s),ints n.kids,.sl 6 rows],.vec 56 6 l.length rows]) aj rfl ?_;subst bj;clear ng
   cases hv:(n.kind==13) with
   | false =>
    rw [if_neg (by simpa using hv),append_nil,Nt (by simpa using hv),cW];refine ab ?_;refine jL ?_;exact ⟨rfl,rfl⟩
   | true =>
    rw [if_pos (by simpa using hv),Ns (by simpa using hv)]
    have AO:(kn.map fun s=>[GV.v (sv s)]).length=kn.length:=by simp
    have bq:strs (kn++[n.s])=.sl 1 ((kn.map fun s=>[GV.v (sv s)])++[[.v (sv n.s)]]):=by simp
    rw [bq];have eH:mP (kn.map fun s=>[GV.v (sv s)])=true:=oI kn;generalize uK names n.s=an at *;refine ab ?_;refine U [] (hA) ?_;refine GW.draw (.q 1 (.q 3 (.q 4 (.q 5 (.f 0 (.f 2 (.a 6 (.a 7 (.q 8 .nil))) 6 (.a 2 (.a 7 (.q 8 .nil)))) 6 (.a 0 (.a 2 (.a 7 (.q 8 .nil))))))))) (by kernel_rfl) (by kernel_rfl) ?_;refine ai ?_;refine GO.fork ?_ ?_
    ·refine sd ?_;refine ai ?_;refine GO.fork ?_ ?_
     ·refine OA rfl rfl (GL.Au rfl rfl rfl rfl eH (by refine ⟨?_,?_⟩;(· rw [AO];omega);(· rw [AO];omega)) ?_);rw [AO];refine c8 ?_;simp only [Nat.zero_add];refine ai ?_;refine dk ?_;refine ai ?_;refine sc ?_;refine ai ?_;refine ab ?_;refine GW.wk (Wk.hY (t:=7) rfl rfl rfl (by simp [chunk])) ?_;refine jL ?_;exact ⟨rfl,rfl⟩
     ·refine dk ?_;refine ai ?_;refine OA rfl rfl (GL.Au rfl rfl rfl rfl eH (by refine ⟨?_,?_⟩;(· rw [AO];omega);(· rw [AO];omega)) ?_);rw [AO];refine c8 ?_;simp only [Nat.zero_add];refine ai ?_;refine sc ?_;refine ai ?_;refine ab ?_;refine GW.wk (Wk.hY (t:=7) rfl rfl rfl (by simp [chunk])) ?_;refine jL ?_;exact ⟨rfl,rfl⟩
    ·refine dk ?_;refine ai ?_;refine sd ?_;refine ai ?_;refine OA rfl rfl (GL.Au rfl rfl rfl rfl eH (by refine ⟨?_,?_⟩;(· rw [AO];omega);(· rw [AO];omega)) ?_);rw [AO];refine c8 ?_;simp only [Nat.zero_add];refine ai ?_;refine sc ?_;refine ai ?_;refine ab ?_;refine GW.wk (Wk.hY (t:=7) rfl rfl rfl (by simp [chunk])) ?_;refine jL ?_;exact ⟨rfl,rfl⟩
end Go.Xg
