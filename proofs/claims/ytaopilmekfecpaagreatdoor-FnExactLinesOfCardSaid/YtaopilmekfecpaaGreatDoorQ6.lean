/- Part 6 of proofs that are told in their last texts. -/
import Derived.Test.YtaopilmekfecpaaGreatDoorQ5
import Derived.Test.YtaopilmekfecpaaGreatDoorQ3
import Derived.Deep.Slices
import Derived.Deep.Fields
import Derived.ChangeSame
import Derived.Lib.SmallJoins
import Derived.SliceStrings
import Derived.ChangeSlices
import Derived.Lib.LaidU8
import Derived.Shelf.Vars
import Derived.Laws.Bits128
import Derived.Test.YtaopilmekfecpaaGreatDoorQ2
set_option linter.unusedVariables false
set_option linter.unusedSimpArgs false
set_option maxRecDepth 100000
namespace Go.Xg
open Go.RowKit Go.Xw Go.Proofs
open Go.WideShapes Go.Deep
open Go.Xp (Nd Ar)
open Go.Sp (Src)
open Go.Im (Small Nums)
def flat (v:Value):Prop:=∀ a n c,v≠.slice a n c
def HasL (W:World) (v:Value) (xs:List Value):Prop:=∃ a c,v=.slice a xs.length c∧(xs=[]∨∃ b o,a=some ⟨b,o,none⟩∧xs.length≤c∧∀ i x,xs[i]?=some x→cellH W.heap b (o+i)=some x∧flat x)
theorem HasL.uniq {W:World} {v:Value} {xs ys:List Value} (h:HasL W v xs) (k:HasL W v ys):xs=ys:=by
 obtain ⟨a,c,h1,h2⟩:=h
 obtain ⟨a',c',k1,k2⟩:=k
 rw [h1] at k1
 injection k1 with e1 e2 e3
 subst e1 e3
 rcases h2 with rfl | ⟨b,o,h3,h4,h5⟩
 ·exact (List.eq_nil_of_length_eq_zero (by simpa using e2.symm)).symm
 ·rcases k2 with rfl | ⟨b',o',k3,k4,k5⟩
  ·exact List.eq_nil_of_length_eq_zero (by simpa using e2)
  ·rw [h3] at k3;cases k3
   apply List.ext_getElem e2
   intro i hi hj
   have a1:=(h5 i _ (List.getElem?_eq_getElem hi)).1
   have a2:=(k5 i _ (List.getElem?_eq_getElem hj)).1
   rw [a1] at a2;exact Option.some.inj a2
open Classical in
noncomputable def KW (W:World):Fz:=fun b o=>match cellH W.heap b o with
 | none=>none
 | some v=>if ∃ a n c,v=.slice a n c then (if h:∃ xs,HasL W v xs then some (.sl 1 (h.choose.map fun x=>[.v x])) else none) else some (.v v)
theorem KW_flat {W:World} {b o:Nat} {v:Value} (h:cellH W.heap b o=some v) (hf:flat v):KW W b o=some (.v v):=by
 unfold KW
 rw [h]
 simp only
 rw [if_neg (by rintro ⟨a,n,c,e⟩;exact hf a n c e)]
theorem KW_sl {W:World} {b o:Nat} {v:Value} {xs:List Value} (h:cellH W.heap b o=some v) (hx:HasL W v xs):KW W b o=some (.sl 1 (xs.map fun x=>[.v x])):=by
 have hs:∃ a n c,v=.slice a n c:=by obtain ⟨a,c,e,_⟩:=hx;exact ⟨_,_,_,e⟩
 have hex:∃ xs,HasL W v xs:=⟨xs,hx⟩
 unfold KW
 rw [h]
 simp only
 rw [if_pos hs,dif_pos hex,hex.choose_spec.uniq hx]
theorem rel_sl {W:World} {v:Value} {xs:List Value} (hx:HasL W v xs) (β:Bt):Rel (KW W) β v (.sl 1 (xs.map fun x=>[GV.v x])):=by
 obtain ⟨a,c,rfl,h⟩:=hx
 rcases h with rfl | ⟨b,o,rfl,hc,hcell⟩
 ·exact .sl0 a c 1
 ·have:=Rel.sl (K:=KW W) (β:=β) b o c 1 (xs.map fun x=>[GV.v x]) (fun i r hr=>by
   rw [List.getElem?_map] at hr
   cases hi:xs[i]? with
   | none=>rw [hi] at hr;cases hr
   | some x =>
    rw [hi] at hr;cases hr
    obtain ⟨h1,h2⟩:=hcell i x hi
    refine ⟨rfl,fun j g hg=>?_⟩
    cases j with
    | zero=>cases hg;rw [Nat.mul_one,Nat.add_zero];exact KW_flat h1 h2
    | succ j=>simp at hg) (by rw [List.length_map];exact hc)
  rw [List.length_map] at this
  exact this
theorem KW_ok (W:World):FzOk (KW W) W:=fun b o g h=>by
 unfold KW at h
 cases hc:cellH W.heap b o with
 | none=>rw [hc] at h;cases h
 | some v =>
  rw [hc] at h
  simp only at h
  split at h
  ·split at h
   ·rename_i hex
    cases h
    exact ⟨rfl,v,rfl,rel_sl hex.choose_spec _⟩
   ·cases h
  ·cases h
   exact ⟨rfl,v,rfl,.v v⟩
theorem rel_rows {W:World} {v:Value} {k:Nat} {rows:List (List GV)} {a:Option Addr} {n c:Nat} (β:Bt) (hv:v=.slice a n c) (hn:rows.length=n)
  (h:n=0∨∃ b o,a=some ⟨b,o,none⟩∧n≤c∧∀ i r,rows[i]?=some r→r.length=k∧∀ j g,r[j]?=some g→KW W b (o+i * k+j)=some g):Rel (KW W) β v (.sl k rows):=by
 subst hv hn
 rcases h with h | ⟨b,o,rfl,hc,hr⟩
 ·have:=List.eq_nil_of_length_eq_zero h
  subst this
  exact .sl0 a c k
 ·exact .sl b o c k rows hr hc
theorem cell_add {W:World} {a:Addr} {n:Nat} {v:Value} (h:W.cell? (a.add n)=some v):cellH W.heap a.block (a.off+n)=some v:=by
 unfold Addr.add at h
 split at h
 ·rename_i h0
  subst h0
  obtain ⟨b,o,s⟩:=a
  have hs:=World.cell?_spot h
  simp only at hs
  subst hs
  rw [cell_eq] at h;exact h
 ·obtain ⟨b,o,s⟩:=a
  simp only at h
  rw [cell_eq] at h;exact h
theorem add_spot {W:World} {a:Addr} {v:Value} (h:W.cell? (a.add 0)=some v):a.spot=none:=by
 have:=World.cell?_spot h
 unfold Addr.add at this
 rw [if_pos rfl] at this;exact this
theorem exists_list {α:Type} {Q:Nat→α→Prop}:∀ {n:Nat},(∀ i,i < n→∃ x,Q i x)→∃ l:List α,l.length=n∧∀ i x,l[i]?=some x→Q i x
 | 0,_=>⟨[],rfl,fun i x h=>by simp at h⟩
 | n+1,h=>by
  obtain ⟨l,h1,h2⟩:=exists_list (n:=n) fun i hi=>h i (by omega)
  obtain ⟨x,hx⟩:=h n (by omega)
  refine ⟨l++[x],by simp [h1],fun i y hi=>?_⟩
  by_cases hil:i < n
  ·rw [List.getElem?_append_left (by omega)] at hi
   exact h2 i y hi
  ·have hlt:=(List.getElem?_eq_some_iff.1 hi).1
   rw [List.length_append,List.length_cons,List.length_nil] at hlt
   have:i=n:=by omega
   subst this
   rw [List.getElem?_append_right (by omega),h1,Nat.sub_self] at hi
   cases hi;exact hx
theorem max_le {n:Nat} (h:n≤maxLen):n≤9223372036854775807:=by unfold maxLen at h;omega
section
variable {H:Type} {enc:TypeId × Value→H} {P:Program} {W:World}
theorem openStrs {t e:TypeId} {n:Nat} {v:Value} {y:DataW H × List MemPlace} (ht:P.underlying t=some (.slice e)) (he:P.underlying e=some .string) (hc:P.cellsOf e=1) (h:DataW.trod enc P W 0 (fun _=>true) true n t [v]=some y) :
  ∃ l:List Str,HasL W v (l.map sv)∧l.length≤9223372036854775807∧∀ s∈l,s.length≤9223372036854775807:=by
 rcases open_slice1 ht hc h with ⟨hcs,_⟩ | ⟨a,len,cap,m,n',V,D,Pl,hcs,_,hl,hm,hmm,_,hx⟩
 ·injection hcs with hv;subst hv
  exact ⟨[],⟨none,0,rfl,.inl rfl⟩,Nat.zero_le _,fun s h=>by cases h⟩
 ·injection hcs with hv _;subst hv
  simp only [if_true] at hmm
  obtain ⟨l,h1,h2⟩:=exists_list (n:=len) (Q:=fun i (s:Str)=>W.cell? (a.add i)=some (sv s)∧s.length≤9223372036854775807) (fun i hi=>by
   obtain ⟨c1,c2⟩:=hx i (by omega)
   obtain ⟨s,hs,_,hz⟩:=DataW.trod_string he c2
   injection hs with hs _
   rw [hs] at c1
   exact ⟨s.data.toList,by rw [←sv_of];exact c1,max_le hz⟩)
  refine ⟨l,⟨some a,cap,by rw [List.length_map,h1],?_⟩,by rw [h1];exact max_le (Nat.le_trans hl hm),fun s hs=>?_⟩
  ·by_cases h0:len=0
   ·have:l=[]:=List.eq_nil_of_length_eq_zero (by omega)
    subst this;exact .inl rfl
   ·refine .inr ⟨a.block,a.off,?_,by rw [List.length_map,h1];exact hl,fun i x hi=>?_⟩
    ·have hl0:l[0]?=some (l[0]'(by omega)):=List.getElem?_eq_getElem _
     have:=add_spot (h2 0 _ hl0).1
     obtain ⟨b,o,s⟩:=a
     simp only at this
     rw [this]
    ·rw [List.getElem?_map] at hi
     cases hli:l[i]? with
     | none=>rw [hli] at hi;cases hi
     | some s =>
      rw [hli] at hi;cases hi
      exact ⟨cell_add (h2 i s hli).1,fun a n c e=>by cases e⟩
  ·obtain ⟨i,hi⟩:=List.getElem?_of_mem hs
   exact (h2 i s hi).2
theorem openInts {t e:TypeId} {n:Nat} {v:Value} {y:DataW H × List MemPlace} (ht:P.underlying t=some (.slice e)) (he:P.underlying e=some (.int .i64)) (hc:P.cellsOf e=1) (h:DataW.trod enc P W 0 (fun _=>true) true n t [v]=some y) :
  ∃ l:List Int,HasL W v (l.map ii)∧l.length≤9223372036854775807:=by
 rcases open_slice1 ht hc h with ⟨hcs,_⟩ | ⟨a,len,cap,m,n',V,D,Pl,hcs,_,hl,hm,hmm,_,hx⟩
 ·injection hcs with hv;subst hv
  exact ⟨[],⟨none,0,rfl,.inl rfl⟩,Nat.zero_le _⟩
 ·injection hcs with hv _;subst hv
  simp only [if_true] at hmm
  obtain ⟨l,h1,h2⟩:=exists_list (n:=len) (Q:=fun i (z:Int)=>W.cell? (a.add i)=some (ii z)) (fun i hi=>by
   obtain ⟨c1,c2⟩:=hx i (by omega)
   obtain ⟨z,hs,_,hz⟩:=DataW.trod_int he c2
   injection hs with hs _
   rw [hs] at c1
   exact ⟨z,c1⟩)
  refine ⟨l,⟨some a,cap,by rw [List.length_map,h1],?_⟩,by rw [h1];exact max_le (Nat.le_trans hl hm)⟩
  by_cases h0:len=0
  ·have:l=[]:=List.eq_nil_of_length_eq_zero (by omega)
   subst this;exact .inl rfl
  ·refine .inr ⟨a.block,a.off,?_,by rw [List.length_map,h1];exact hl,fun i x hi=>?_⟩
   ·have hl0:l[0]?=some (l[0]'(by omega)):=List.getElem?_eq_getElem _
    have:=add_spot (h2 0 _ hl0)
    obtain ⟨b,o,s⟩:=a
    simp only at this
    rw [this]
   ·rw [List.getElem?_map] at hi
    cases hli:l[i]? with
    | none=>rw [hli] at hi;cases hi
    | some s =>
     rw [hli] at hi;cases hi
     exact ⟨cell_add (h2 i s hli),fun a n c e=>by cases e⟩
theorem openRows {α:Type} {t e:TypeId} {fs:Array Field} {k n:Nat} {v:Value} {y:DataW H × List MemPlace} (f:α→List GV) (Q:α→Prop) (β:Bt) (ht:P.underlying t=some (.slice e)) (he:P.underlying e=some (.struct fs)) (hone:oneCellFields P fs=true) (hC:P.cellsOf e=k) (hk:fs.size=k) (hk0:0 < k)
  (each:∀ b o,(∀ (j:Nat) (fl:Field),fs[j]?=some fl→∃ v y n,cellH W.heap b (o+j)=some v∧DataW.trod enc P W 0 (fun _=>true) true n fl.type [v]=some y)→∃ x,Q x∧(f x).length=k∧∀ j g,(f x)[j]?=some g→KW W b (o+j)=some g)
  (h:DataW.trod enc P W 0 (fun _=>true) true n t [v]=some y):∃ l:List α,Rel (KW W) β v (.sl k (l.map f))∧l.length≤9223372036854775807∧∀ x∈l,Q x:=by
 rcases open_slice ht h with ⟨hcs,_⟩ | ⟨a,len,cap,m,n',D,Pl,hcs,_,hl,hm,hmm,_,hx⟩
 ·injection hcs with hv;subst hv
  exact ⟨[],.sl0 none 0 k,Nat.zero_le _,fun s h=>by cases h⟩
 ·injection hcs with hv _;subst hv
  simp only [if_true] at hmm
  have hcell:∀ i,i < len→∀ (j:Nat) (fl:Field),fs[j]?=some fl→∃ v y n,W.cell? (a.add (i * k+j))=some v∧DataW.trod enc P W 0 (fun _=>true) true n fl.type [v]=some y:=by
   intro i hi j fl hj
   obtain ⟨cs',hc,ht'⟩:=hx i (by omega)
   rw [hC] at hc
   obtain ⟨ys,n',hn',hy,hlen,hyl,hf⟩:=DataW.trod_struct he ht'
   obtain ⟨_,hcl,hat⟩:=World.cells?_some hc
   obtain ⟨ho,hk1⟩:=hone_of hone j fl hj
   have hjl:j < fs.size:=(Array.getElem?_eq_some_iff.1 hj).1
   have hcell:=hat j (by omega)
   have hv:cs'[j]?=some (cs'[j]'(by omega)):=List.getElem?_eq_getElem (by omega)
   have h1:=hf j fl hj
   rw [ho,hk1] at h1
   have hone':(cs'.drop j).take 1=[cs'[j]'(by omega)]:=by
    rw [List.drop_eq_getElem_cons (by omega)]
    rfl
   rw [hone'] at h1
   have hys:ys[j]?=some (ys[j]'(by omega)):=List.getElem?_eq_getElem (by omega)
   refine ⟨_,_,_,?_,h1.trans hys⟩
   rw [←Go.Deep.add_add,hcell,hv]
  obtain ⟨l,h1,h2⟩:=exists_list (n:=len) (Q:=fun i x=>Q x∧(f x).length=k∧∀ j g,(f x)[j]?=some g→KW W a.block (a.off+i * k+j)=some g) (fun i hi =>
   each a.block (a.off+i * k) fun j fl hj=>by
    obtain ⟨v,y,n,c1,c2⟩:=hcell i hi j fl hj
    exact ⟨v,y,n,by rw [Nat.add_assoc];exact cell_add c1,c2⟩)
  refine ⟨l,rel_rows (n:=len) (c:=cap) β rfl (by rw [List.length_map,h1]) ?_,by rw [h1];exact max_le (Nat.le_trans hl hm),fun x hx=>?_⟩
  ·by_cases h0:len=0
   ·exact .inl h0
   ·refine .inr ⟨a.block,a.off,?_,hl,fun i r hr=>?_⟩
    ·obtain ⟨v,y,n,c1,c2⟩:=hcell 0 (by omega) 0 (fs[0]'(by omega)) (Array.getElem?_eq_getElem (by omega))
     rw [Nat.zero_mul,Nat.add_zero] at c1
     have:=add_spot c1
     obtain ⟨b,o,s⟩:=a
     simp only at this
     rw [this]
    ·rw [List.getElem?_map] at hr
     cases hli:l[i]? with
     | none=>rw [hli] at hr;cases hr
     | some x =>
      rw [hli] at hr;cases hr
      exact (h2 i x hli).2
  ·obtain ⟨i,hi⟩:=List.getElem?_of_mem hx
   exact (h2 i x hi).1
end
theorem strs_map (l:List Str):GV.sl 1 ((l.map sv).map fun x=>[GV.v x])=strs l:=by rw [List.map_map];rfl
theorem ints_map (l:List Int):GV.sl 1 ((l.map ii).map fun x=>[GV.v x])=ints l:=by rw [List.map_map];rfl
theorem wf_i64 {z:Int} (h:(Lit.int .i64 z).wf=true) : -9223372036854775808≤z∧z≤9223372036854775807:=by
 simp only [Lit.wf,Bool.and_eq_true,decide_eq_true_eq] at h
 have h1:IntKind.min .i64 = -9223372036854775808:=by decide
 have h2:IntKind.max .i64=9223372036854775807:=by decide
 rw [h1,h2] at h
 exact h
theorem flat_ii (z:Int):flat (ii z):=fun a n c e=>by cases e
section
variable {H:Type} {enc:TypeId × Value→H} {W:World}
theorem open_src (β:Bt) {v:Value} {d:DataW H} {ps:List MemPlace} {r:Reach} {b0:Nat} (hv:Value.okWide Tryz.prog W r b0 39 v) (h:DataW.Trod enc Tryz.prog W 0 (fun _=>true) true 39 v d ps) :
  ∃ p:Src,Rel (KW W) β v (.agg (encSrc p))∧Small p 9223372036854775807∧Nums p:=by
 obtain ⟨v0,v1,v2,v3,y0,y1,y2,y3,n,rfl,_,_,h0,h1,h2,h3⟩:=Go.Joins.open_agg4 Tryz.underlying39 (by kernel_rfl) (by kernel_rfl) hv h
 have c9:Tryz.prog.cellsOf 9=1:=by kernel_rfl
 have c3:Tryz.prog.cellsOf 3=1:=by kernel_rfl
 obtain ⟨gs,g1,g2,g3⟩:=openStrs Tryz.underlying23 Tryz.underlying9 c9 h0
 obtain ⟨ars,a1,a2,a3⟩:=openRows encAr (fun x=>x.name.length≤9223372036854775807 ∧ -9223372036854775808≤x.size∧x.size≤9223372036854775807) β Tryz.underlying35 Tryz.underlying124 (by kernel_rfl) (k:=2) (by kernel_rfl) rfl (by omega) (fun b o hf=>by
  obtain ⟨u0,z0,n0,x0,w0⟩:=hf 0 _ rfl
  obtain ⟨u1,z1,n1,x1,w1⟩:=hf 1 _ rfl
  obtain ⟨s,hs,_,hz⟩:=DataW.trod_string Tryz.underlying9 w0
  obtain ⟨z,hs1,_,hz1⟩:=DataW.trod_int Tryz.underlying3 w1
  injection hs with hs _
  injection hs1 with hs1 _
  subst hs hs1
  refine ⟨⟨s.data.toList,z⟩,⟨max_le hz,wf_i64 hz1⟩,rfl,fun j g hg=>?_⟩
  match j,hg with
  | 0,hg=>cases hg;rw [←sv_of];exact KW_flat x0 fun a n c e=>by cases e
  | 1,hg=>cases hg;exact KW_flat x1 (flat_ii z)
  | j+2,hg=>simp [encAr] at hg) h1
 obtain ⟨fs,f1,f2,f3⟩:=openRows encFn (fun x=>x.name.length≤9223372036854775807∧x.params.length≤9223372036854775807∧∀ s∈x.params,s.length≤9223372036854775807) β Tryz.underlying36 Tryz.underlying126 (by kernel_rfl) (k:=3) (by kernel_rfl) rfl (by omega) (fun b o hf=>by
  obtain ⟨u0,z0,n0,x0,w0⟩:=hf 0 _ rfl
  obtain ⟨u1,z1,n1,x1,w1⟩:=hf 1 _ rfl
  obtain ⟨u2,z2,n2,x2,w2⟩:=hf 2 _ rfl
  obtain ⟨s,hs,_,hz⟩:=DataW.trod_string Tryz.underlying9 w0
  obtain ⟨l,hl1,hl2,hl3⟩:=openStrs Tryz.underlying23 Tryz.underlying9 c9 w1
  obtain ⟨z,hs1,_,hz1⟩:=DataW.trod_int Tryz.underlying3 w2
  injection hs with hs _
  injection hs1 with hs1 _
  subst hs hs1
  refine ⟨⟨s.data.toList,l,z⟩,⟨max_le hz,hl2,hl3⟩,rfl,fun j g hg=>?_⟩
  match j,hg with
  | 0,hg=>cases hg;rw [←sv_of];exact KW_flat x0 fun a n c e=>by cases e
  | 1,hg=>cases hg;rw [KW_sl x1 hl1,strs_map]
  | 2,hg=>cases hg;exact KW_flat x2 (flat_ii z)
  | j+3,hg=>simp [encFn] at hg) h2
 obtain ⟨ns,k1,k2,k3⟩:=openRows encNode (fun x=>(x.s.length≤9223372036854775807∧x.kids.length≤9223372036854775807) ∧ -9223372036854775808≤x.n∧x.n≤9223372036854775807) β Tryz.underlying37 Tryz.underlying128 (by kernel_rfl) (k:=5) (by kernel_rfl) rfl (by omega) (fun b o hf=>by
  obtain ⟨u0,z0,n0,x0,w0⟩:=hf 0 _ rfl
  obtain ⟨u1,z1,n1,x1,w1⟩:=hf 1 _ rfl
  obtain ⟨u2,z2,n2,x2,w2⟩:=hf 2 _ rfl
  obtain ⟨u3,z3,n3,x3,w3⟩:=hf 3 _ rfl
  obtain ⟨u4,z4,n4,x4,w4⟩:=hf 4 _ rfl
  obtain ⟨i0,e0,_,_⟩:=DataW.trod_int Tryz.underlying3 w0
  obtain ⟨i1,e1,_,_⟩:=DataW.trod_int Tryz.underlying3 w1
  obtain ⟨i2,e2,_,q2⟩:=DataW.trod_int Tryz.underlying3 w2
  obtain ⟨s,hs,_,hz⟩:=DataW.trod_string Tryz.underlying9 w3
  obtain ⟨l,hl1,hl2⟩:=openInts Tryz.underlying59 Tryz.underlying3 c3 w4
  injection e0 with e0 _
  injection e1 with e1 _
  injection e2 with e2 _
  injection hs with hs _
  subst hs e0 e1 e2
  refine ⟨⟨i0,i1,i2,s.data.toList,l⟩,⟨⟨max_le hz,hl2⟩,wf_i64 q2⟩,rfl,fun j g hg=>?_⟩
  match j,hg with
  | 0,hg=>cases hg;exact KW_flat x0 (flat_ii _)
  | 1,hg=>cases hg;exact KW_flat x1 (flat_ii _)
  | 2,hg=>cases hg;exact KW_flat x2 (flat_ii _)
  | 3,hg=>cases hg;rw [←sv_of];exact KW_flat x3 fun a n c e=>by cases e
  | 4,hg=>cases hg;rw [KW_sl x4 hl1,ints_map]
  | j+5,hg=>simp [encNode] at hg) h3
 have r0:=rel_sl g1 β
 rw [strs_map] at r0
 refine ⟨⟨gs,ars,fs,ns⟩,?_,⟨⟨g2,g3⟩,⟨a2,fun x hx=>(a3 x hx).1⟩,⟨f2,f3⟩,⟨k2,fun x hx=>(k3 x hx).1⟩⟩,⟨fun x hx=>(a3 x hx).2,fun x hx=>(k3 x hx).2⟩⟩
 have hc:RelL (KW W) β [v0,v1,v2,v3] (encSrc ⟨gs,ars,fs,ns⟩):=.cons r0 (.cons a1 (.cons f1 (.cons k1 .nil)))
 exact .agg [v0,v1,v2,v3] _ hc.1 hc.2
end
end Go.Xg
namespace Go.Xg
open Go.RowKit Go.Xw Go.Proofs
open Go.Lib
theorem tab_of {P:Program} {W:World} {name:String} {k:IntKind} {zs:List Int} {g:Nat} {t e:TypeId} {n:Nat}
  (hg:P.globalNamed name=some g) (hty:(P.globals[g]?).map (·.type)=some t) (ht:P.underlying t=some (.array n e)) (he:P.underlying e=some (.int k)) (hce:P.cellsOf e=1) (hct:P.cellsOf t=n)
  (h:VarReads P W name (tabData k zs)):TabIs P W name k zs:=by
 obtain ⟨g',t',cs,fuel,p,hg',ht',hvar,hd⟩:=h
 obtain rfl:=Option.some.inj (hg.symm.trans hg')
 obtain rfl:=Option.some.inj (hty.symm.trans ht')
 unfold TabIs
 rw [hvar,←cells_of_tab ht he hce hct hd]
theorem tabB_of {P:Program} {W:World} {name:String} {k:IntKind} {zs:List Int} {g n:Nat} (hg:P.globalNamed name=some g) (hn:zs.length=n) (h:TabIs P W name k zs):TabB W g n:=by
 unfold TabIs World.var? at h
 rw [hg] at h
 simp only [Option.bind_some] at h
 cases hb:W.heap[g]? with
 | none=>rw [hb] at h;cases h
 | some o =>
  rw [hb] at h
  cases o with
  | cells cs E z =>
   simp only [Option.some.injEq] at h
   exact ⟨cs,E,z,hb,by rw [h];simpa using hn⟩
  | _=>cases h
theorem KW_tab {P:Program} {W:World} {name:String} {k:IntKind} {zs:List Int} {g:Nat} (hg:P.globalNamed name=some g) (h:TabIs P W name k zs) {o:Nat} {z:Int} (ho:zs[o]?=some z):KW W g o=some (.v (.int k z)):=by
 have hlt:=(List.getElem?_eq_some_iff.1 ho).1
 have hc:=h.cell hg o hlt
 rw [List.getD_eq_getElem?_getD,ho,cell_eq] at hc
 exact KW_flat hc fun a n c e=>by cases e
theorem tabs_of {W:World} (hp:VarReads Tryz.prog W "internal/strconv.uint64pow10" (tabData .u64 pow10T)) (hs:VarReads Tryz.prog W "strings.asciiSpace" (tabData .u8 spaceT)) (hW:W.ShapedOpen Tryz.prog):Tabs (KW W) (fun _=>.no) W:=by
 have gp:Tryz.prog.globalNamed "internal/strconv.uint64pow10" = some 1:=by kernel_rfl
 have gs:Tryz.prog.globalNamed "strings.asciiSpace" = some 2:=by kernel_rfl
 have tp:=tab_of gp (t:=224) (by kernel_rfl) Tryz.underlying224 (k:=.u64) (by kernel_rfl) (by kernel_rfl) (by kernel_rfl) hp
 have ts:=tab_of gs (t:=228) (by kernel_rfl) Tryz.underlying228 (k:=.u8) (by kernel_rfl) (by kernel_rfl) (by kernel_rfl) hs
 obtain ⟨m,hm⟩:=cell_of_shapedOpen_int (g:=0) (zero:=#[.int .i64 0]) (t:=3) hW (of_decide_eq_true (by kernel_rfl)) (by kernel_rfl) rfl (by kernel_rfl) (by kernel_rfl) Tryz.underlying3
 rw [cell_eq] at hm
 refine ⟨⟨m,fun b o g h=>?_⟩,tabB_of gp (by decide) tp,tabB_of gs (by decide) ts,fun i b h=>by cases h⟩
 unfold KTab at h
 split at h
 ·rename_i hb
  subst hb
  split at h
  ·cases h;exact KW_flat hm fun a n c e=>by cases e
  ·cases h
 ·split at h
  ·rename_i hb
   subst hb
   cases ho:pow10T[o]? with
   | none=>rw [ho] at h;cases h
   | some z=>rw [ho] at h;cases h;exact KW_tab gp tp ho
  ·split at h
   ·rename_i hb
    subst hb
    cases ho:spaceT[o]? with
    | none=>rw [ho] at h;cases h
    | some z=>rw [ho] at h;cases h;exact KW_tab gs ts ho
   ·cases h
theorem GF.calls {P:Program} {f:FuncId} {gs:List GV} {g:GV} (h:GF P f gs [] g []) {W:World} {vs:List Value} (hv:RelL (KW W) (fun _=>.no) vs gs) (hT:Tabs (KW W) (fun _=>.no) W) :
  Ret P f vs W fun v w'=>Below W.heap.size W w'∧∃ K β,Rel K β v g:=by
 have hI:Inv ⟨W,none',KW W,fun _=>.no,0⟩ (KW W) (fun _=>.no) [] W :=
  ⟨Ext.refl W,KLe.refl _,BLe.refl _,fun _ _=>rfl,KW_ok W,fun i x h=>by simp at h,fun _ _=>rfl,fun i j b h=>(by cases h),fun i b h=>(by cases h),fun b o g h=>.inl h,hT⟩
 refine (h ⟨W,none',KW W,fun _=>.no,0⟩ (KW W) (fun _=>.no) W vs rfl hI hv).mono ?_
 rintro v w' ⟨K',β',x,Γ',h1,h2,rfl,rfl⟩
 exact ⟨h1.ext.below,K',β',h2⟩
end Go.Xg
set_option maxHeartbeats 1000000
namespace Go.Xg
open Go.RowKit Go.Xw Go.Proofs
open Go.Xp (Tok Nd T signOf one levels Ar)
open Go.Sp
attribute [local irreducible] GW GL GO YG GC GA gthn ginb
theorem end_g (p:Src) (hp:p.nodes.length≤1000000000000) (hk:∀ n∈p.nodes,n.kids.length≤1000000000000):∀ (f a d:Nat) (e:Int),d≤801→endN p.nodes f a d=some e→GF Tryz.prog 132 [.agg (encSrc p),.v (ii (a:Nat)),.v (ii (d:Nat))] [] (.v (ii e)) []:=by
 intro f
 induction f using Nat.strongRecOn with
 | _ f ih =>
 intro a d e hd h
 cases f with
 | zero=>simp [endN] at h
 | succ f =>
 rw [endN] at h
 refine GC.enter Tryz.func132 Tryz.ntmps132 rfl (by simp only [gframe,grep,Nat.reduceSub];rfl) ?_
 by_cases h1:p.nodes.length≤a
 ·rw [if_pos (.inl h1)] at h
  cases h
  have h1':decide (((p.nodes.map encNode).length:Int)≤(a:Int))=true:=by simpa using h1
  refine w_grun ?_
  refine w_gret ?_
  exact ⟨rfl,rfl⟩
 have h1':decide (((p.nodes.map encNode).length:Int)≤(a:Int))=false:=by simpa using h1
 by_cases h2:d > 800
 ·rw [if_pos (.inr h2)] at h
  cases h
  have h2':decide ((800:Int) < (d:Int))=true:=by simpa using by omega
  refine w_grun ?_
  refine w_gret ?_
  exact ⟨rfl,rfl⟩
 have h2':decide ((800:Int) < (d:Int))=false:=by simpa using by omega
 rw [if_neg (by omega)] at h
 cases hn:p.nodes[a]? with
 | none=>rw [hn] at h;cases h
 | some n =>
 rw [hn] at h
 simp only at h
 have hr:=row_node hn
 have hkl:=hk n (List.mem_of_getElem? hn)
 refine w_grun ?_
 refine GW.range (n.kids.map fun i=>[GV.v (ii i)]).length (fun k fr Γ=>∃ nx g,fr=[.any,.v (ii (a:Nat)),.v (ii (d:Nat)),.loc 0 0,.any,.any,.any,.v (ii nx),.any,.any,.any,.any,.any,.any,.any,.any,.any,.any,.any,.any,.any,.any,.any,.any,.any,.any,ints n.kids,.v (ii ((n.kids.map fun i=>[GV.v (ii i)]).length:Int)),.v (ii (k:Nat)),.any,.any,.any,.any,.any,.any,.any,.any,.any,.any,.any,.any,.any,.any,.any] ∧
   Γ=[.box 28 (encSrc p)]∧0≤nx∧g≤f∧endL p.nodes g (n.kids.drop k) nx d=some e) ?_ (by simp;omega) ?_ ?_ ?_
 ·exact ⟨_,_,Wk.frm w_wkf,_,f,rfl,rfl,by omega,Nat.le_refl _,h⟩
 ·rintro k _ _ ⟨_,_,rfl,rfl,_⟩;exact ⟨rfl,rfl,rfl⟩
 ·rintro k _ _ hlt ⟨nx,g,rfl,rfl,hnx,hg,h⟩
  have hlt:k < n.kids.length:=by simpa using hlt
  have hx:n.kids[k]?=some n.kids[k]:=by simp [hlt]
  rw [List.drop_eq_getElem_cons hlt] at h
  generalize n.kids[k]=x at *
  have hri:=row_int hx
  cases g with
  | zero=>simp [endL] at h
  | succ g =>
  rw [endL] at h
  by_cases hxn:x=nx
  ·subst hxn
   rw [if_pos rfl] at h
   have hb:(x != x)=false:=by simp
   cases hst:endN p.nodes g x.toNat (d+1) with
   | none=>rw [hst] at h;cases h
   | some y =>
   rw [hst] at h
   simp only at h
   have hcall:=ih g (by omega) x.toNat (d+1) y (by omega) hst
   rw [Int.toNat_of_nonneg hnx] at hcall
   by_cases hy:y < 0
   ·rw [if_pos hy] at h
    cases h
    have hy':decide (y < (0:Int))=true:=by simpa using hy
    refine w_grun ?_
    refine w_gcall [] (hcall) ?_
    refine w_grun ?_
    refine w_gret ?_
    exact ⟨rfl,rfl⟩
   ·rw [if_neg hy] at h
    have hy':decide (y < (0:Int))=false:=by simpa using hy
    refine w_grun ?_
    refine w_gcall [] (hcall) ?_
    refine w_grun ?_
    exact ⟨rfl,rfl,_,_,Wk.frm w_wkf,_,g,rfl,rfl,by omega,by omega,h⟩
  ·rw [if_neg hxn] at h
   cases h
   have hb:(x != nx)=true:=by simpa using hxn
   refine w_grun ?_
   refine w_gret ?_
   exact ⟨rfl,rfl⟩
 ·rintro _ _ ⟨nx,g,rfl,rfl,hnx,hg,h⟩
  rw [List.length_map,List.drop_length] at h
  have hacc:nx=e:=by cases g <;> (rw [endL] at h;cases h;rfl)
  subst hacc
  refine w_grun ?_
  refine w_gret ?_
  exact ⟨rfl,rfl⟩
end Go.Xg
namespace Go.Xg
open Go.RowKit Go.Xw Go.Proofs
open Go.Xp (Tok Nd T signOf one levels Ar)
open Go.Sp
attribute [local irreducible] GW GL GO YG GC GA gthn ginb
theorem own_1 (a n:Int) (s:Str) (ks:List Int) (l:List T) (hs:s.length≤1099511627776) (hl:l.length≤1099511627776) (ha:decide (a < 0)=false):GF Tryz.prog 176 [.agg (cT (.mk ⟨1,a,n,s,ks⟩ l))] [] (.v (.bool (ownT (.mk ⟨1,a,n,s,ks⟩ l)))) []:=by
 have how:ownT (.mk ⟨1,a,n,s,ks⟩ l)=(decide ((0:Int)≤n)&&(decide (n≤2147483647)&&((s==[])&&((l.length:Int)==0)))):=by unfold ownT own;rw [if_neg (by show ¬ (decide (a < 0)=true);rw [ha];decide)];rfl
 rw [how]
 refine GC.enter Tryz.func176 Tryz.ntmps176 rfl (by simp only [gframe,grep,Nat.reduceSub];rfl) ?_
 cases h0:decide ((0:Int)≤n) with
 | false =>
  refine w_grun ?_
  refine w_gret ?_
  exact ⟨rfl,rfl⟩
 | true =>
  cases h1:decide (n≤2147483647) with
  | false =>
   refine w_grun ?_
   refine w_gret ?_
   exact ⟨rfl,rfl⟩
  | true =>
   cases h2:(s==[]) with
   | false =>
    refine w_grun ?_
    refine w_gret ?_
    exact ⟨rfl,rfl⟩
   | true =>
    refine w_grun ?_
    refine w_gret ?_
    exact ⟨by first | rfl | (rw [encTs_len];rfl),rfl⟩
theorem own_2 (a:Int) (s:Str) (ks:List Int) (l:List T) (hs:s.length≤1099511627776) (hl:l.length≤1099511627776) (ha:decide (a < 0)=false):GF Tryz.prog 176 [.agg (cT (.mk ⟨2,a,0,s,ks⟩ l))] [] (.v (.bool (ownT (.mk ⟨2,a,0,s,ks⟩ l)))) []:=by
 have how:ownT (.mk ⟨2,a,0,s,ks⟩ l)=(nameOk s&&((l.length:Int)==0)):=by unfold ownT own;rw [if_neg (by show ¬ (decide (a < 0)=true);rw [ha];decide)];rfl
 rw [how]
 refine GC.enter Tryz.func176 Tryz.ntmps176 rfl (by simp only [gframe,grep,Nat.reduceSub];rfl) ?_
 cases h0:nameOk s with
 | false =>
  refine w_grun ?_
  have hc:=NameOk_g s hs
  rw [h0] at hc
  refine w_gcall [] (hc) ?_
  refine w_grun ?_
  refine w_gret ?_
  exact ⟨rfl,rfl⟩
 | true =>
  refine w_grun ?_
  have hc:=NameOk_g s hs
  rw [h0] at hc
  refine w_gcall [] (hc) ?_
  refine w_grun ?_
  refine w_gret ?_
  exact ⟨by first | rfl | (rw [encTs_len];rfl),rfl⟩
theorem own_3 (a:Int) (s:Str) (ks:List Int) (l:List T) (hs:s.length≤1099511627776) (hl:l.length≤1099511627776) (ha:decide (a < 0)=false):GF Tryz.prog 176 [.agg (cT (.mk ⟨3,a,0,s,ks⟩ l))] [] (.v (.bool (ownT (.mk ⟨3,a,0,s,ks⟩ l)))) []:=by
 have how:ownT (.mk ⟨3,a,0,s,ks⟩ l)=(nameOk s&&(((l.length:Int)==1)&&kindsFrom 1 0 l)):=by unfold ownT own;rw [if_neg (by show ¬ (decide (a < 0)=true);rw [ha];decide)];rfl
 rw [how]
 refine GC.enter Tryz.func176 Tryz.ntmps176 rfl (by simp only [gframe,grep,Nat.reduceSub];rfl) ?_
 cases h0:nameOk s with
 | false =>
  refine w_grun ?_
  have hc:=NameOk_g s hs
  rw [h0] at hc
  refine w_gcall [] (hc) ?_
  refine w_grun ?_
  refine w_gret ?_
  exact ⟨rfl,rfl⟩
 | true =>
  cases h1:((l.length:Int)==1) with
  | false =>
   have h1':((((encTs l).length:Int)==1))=false:=by rw [←encTs_len l] at h1;exact h1
   refine w_grun ?_
   have hc:=NameOk_g s hs
   rw [h0] at hc
   refine w_gcall [] (hc) ?_
   refine w_grun ?_
   refine w_gret ?_
   exact ⟨rfl,rfl⟩
  | true =>
   have h1':((((encTs l).length:Int)==1))=true:=by rw [←encTs_len l] at h1;exact h1
   refine w_grun ?_
   have hc:=NameOk_g s hs
   rw [h0] at hc
   refine w_gcall [] (hc) ?_
   refine w_grun ?_
   have hc:=l08Kinds_g (.mk ⟨3,a,0,s,ks⟩ l) 1 hl
   refine w_gcall [] (hc) ?_
   refine w_grun ?_
   refine w_gret ?_
   exact ⟨by first | rfl | (rw [encTs_len];rfl),rfl⟩
theorem own_4 (a:Int) (s:Str) (ks:List Int) (l:List T) (hs:s.length≤1099511627776) (hl:l.length≤1099511627776) (ha:decide (a < 0)=false):GF Tryz.prog 176 [.agg (cT (.mk ⟨4,a,0,s,ks⟩ l))] [] (.v (.bool (ownT (.mk ⟨4,a,0,s,ks⟩ l)))) []:=by
 have how:ownT (.mk ⟨4,a,0,s,ks⟩ l)=(nameOk s&&kindsFrom l.length 0 l):=by unfold ownT own;rw [if_neg (by show ¬ (decide (a < 0)=true);rw [ha];decide)];rfl
 rw [how]
 refine GC.enter Tryz.func176 Tryz.ntmps176 rfl (by simp only [gframe,grep,Nat.reduceSub];rfl) ?_
 cases h0:nameOk s with
 | false =>
  refine w_grun ?_
  have hc:=NameOk_g s hs
  rw [h0] at hc
  refine w_gcall [] (hc) ?_
  refine w_grun ?_
  refine w_gret ?_
  exact ⟨rfl,rfl⟩
 | true =>
  refine w_grun ?_
  have hc:=NameOk_g s hs
  rw [h0] at hc
  refine w_gcall [] (hc) ?_
  refine w_grun ?_
  have hc:=l08Kinds_g (.mk ⟨4,a,0,s,ks⟩ l) (encTs l).length hl
  refine w_gcall [] (hc) ?_
  refine w_grun ?_
  refine w_gret ?_
  exact ⟨by first | rfl | (rw [encTs_len];rfl),rfl⟩
theorem own_6 (a:Int) (s:Str) (ks:List Int) (l:List T) (hs:s.length≤1099511627776) (hl:l.length≤1099511627776) (ha:decide (a < 0)=false):GF Tryz.prog 176 [.agg (cT (.mk ⟨6,a,0,s,ks⟩ l))] [] (.v (.bool (ownT (.mk ⟨6,a,0,s,ks⟩ l)))) []:=by
 have how:ownT (.mk ⟨6,a,0,s,ks⟩ l)=(anySign s&&(((l.length:Int)==2)&&kindsFrom 2 0 l)):=by unfold ownT own;rw [if_neg (by show ¬ (decide (a < 0)=true);rw [ha];decide)];rfl
 rw [how]
 refine GC.enter Tryz.func176 Tryz.ntmps176 rfl (by simp only [gframe,grep,Nat.reduceSub];rfl) ?_
 cases h0:anySign s with
 | false =>
  refine w_grun ?_
  have hc:=l08AnySign_g s
  rw [h0] at hc
  refine w_gcall [] (hc) ?_
  refine w_grun ?_
  refine w_gret ?_
  exact ⟨rfl,rfl⟩
 | true =>
  cases h1:((l.length:Int)==2) with
  | false =>
   have h1':((((encTs l).length:Int)==2))=false:=by rw [←encTs_len l] at h1;exact h1
   refine w_grun ?_
   have hc:=l08AnySign_g s
   rw [h0] at hc
   refine w_gcall [] (hc) ?_
   refine w_grun ?_
   refine w_gret ?_
   exact ⟨rfl,rfl⟩
  | true =>
   have h1':((((encTs l).length:Int)==2))=true:=by rw [←encTs_len l] at h1;exact h1
   refine w_grun ?_
   have hc:=l08AnySign_g s
   rw [h0] at hc
   refine w_gcall [] (hc) ?_
   refine w_grun ?_
   have hc:=l08Kinds_g (.mk ⟨6,a,0,s,ks⟩ l) 2 hl
   refine w_gcall [] (hc) ?_
   refine w_grun ?_
   refine w_gret ?_
   exact ⟨by first | rfl | (rw [encTs_len];rfl),rfl⟩
theorem own_7 (a:Int) (s:Str) (ks:List Int) (l:List T) (hs:s.length≤1099511627776) (hl:l.length≤1099511627776) (ha:decide (a < 0)=false):GF Tryz.prog 176 [.agg (cT (.mk ⟨7,a,0,s,ks⟩ l))] [] (.v (.bool (ownT (.mk ⟨7,a,0,s,ks⟩ l)))) []:=by
 have how:ownT (.mk ⟨7,a,0,s,ks⟩ l)=(nameOk s&&(((l.length:Int)==1)&&kindsFrom 1 0 l)):=by unfold ownT own;rw [if_neg (by show ¬ (decide (a < 0)=true);rw [ha];decide)];rfl
 rw [how]
 refine GC.enter Tryz.func176 Tryz.ntmps176 rfl (by simp only [gframe,grep,Nat.reduceSub];rfl) ?_
 cases h0:nameOk s with
 | false =>
  refine w_grun ?_
  have hc:=NameOk_g s hs
  rw [h0] at hc
  refine w_gcall [] (hc) ?_
  refine w_grun ?_
  refine w_gret ?_
  exact ⟨rfl,rfl⟩
 | true =>
  cases h1:((l.length:Int)==1) with
  | false =>
   have h1':((((encTs l).length:Int)==1))=false:=by rw [←encTs_len l] at h1;exact h1
   refine w_grun ?_
   have hc:=NameOk_g s hs
   rw [h0] at hc
   refine w_gcall [] (hc) ?_
   refine w_grun ?_
   refine w_gret ?_
   exact ⟨rfl,rfl⟩
  | true =>
   have h1':((((encTs l).length:Int)==1))=true:=by rw [←encTs_len l] at h1;exact h1
   refine w_grun ?_
   have hc:=NameOk_g s hs
   rw [h0] at hc
   refine w_gcall [] (hc) ?_
   refine w_grun ?_
   have hc:=l08Kinds_g (.mk ⟨7,a,0,s,ks⟩ l) 1 hl
   refine w_gcall [] (hc) ?_
   refine w_grun ?_
   refine w_gret ?_
   exact ⟨by first | rfl | (rw [encTs_len];rfl),rfl⟩
theorem own_8 (a:Int) (s:Str) (ks:List Int) (l:List T) (hs:s.length≤1099511627776) (hl:l.length≤1099511627776) (ha:decide (a < 0)=false):GF Tryz.prog 176 [.agg (cT (.mk ⟨8,a,0,s,ks⟩ l))] [] (.v (.bool (ownT (.mk ⟨8,a,0,s,ks⟩ l)))) []:=by
 have how:ownT (.mk ⟨8,a,0,s,ks⟩ l)=(nameOk s&&(((l.length:Int)==2)&&kindsFrom 2 0 l)):=by unfold ownT own;rw [if_neg (by show ¬ (decide (a < 0)=true);rw [ha];decide)];rfl
 rw [how]
 refine GC.enter Tryz.func176 Tryz.ntmps176 rfl (by simp only [gframe,grep,Nat.reduceSub];rfl) ?_
 cases h0:nameOk s with
 | false =>
  refine w_grun ?_
  have hc:=NameOk_g s hs
  rw [h0] at hc
  refine w_gcall [] (hc) ?_
  refine w_grun ?_
  refine w_gret ?_
  exact ⟨rfl,rfl⟩
 | true =>
  cases h1:((l.length:Int)==2) with
  | false =>
   have h1':((((encTs l).length:Int)==2))=false:=by rw [←encTs_len l] at h1;exact h1
   refine w_grun ?_
   have hc:=NameOk_g s hs
   rw [h0] at hc
   refine w_gcall [] (hc) ?_
   refine w_grun ?_
   refine w_gret ?_
   exact ⟨rfl,rfl⟩
  | true =>
   have h1':((((encTs l).length:Int)==2))=true:=by rw [←encTs_len l] at h1;exact h1
   refine w_grun ?_
   have hc:=NameOk_g s hs
   rw [h0] at hc
   refine w_gcall [] (hc) ?_
   refine w_grun ?_
   have hc:=l08Kinds_g (.mk ⟨8,a,0,s,ks⟩ l) 2 hl
   refine w_gcall [] (hc) ?_
   refine w_grun ?_
   refine w_gret ?_
   exact ⟨by first | rfl | (rw [encTs_len];rfl),rfl⟩
theorem own_10 (a:Int) (s:Str) (ks:List Int) (l:List T) (hs:s.length≤1099511627776) (hl:l.length≤1099511627776) (ha:decide (a < 0)=false):GF Tryz.prog 176 [.agg (cT (.mk ⟨10,a,0,s,ks⟩ l))] [] (.v (.bool (ownT (.mk ⟨10,a,0,s,ks⟩ l)))) []:=by
 have how:ownT (.mk ⟨10,a,0,s,ks⟩ l)=((s==[])&&(((l.length:Int)==2)&&kindsFrom 1 0 l)):=by unfold ownT own;rw [if_neg (by show ¬ (decide (a < 0)=true);rw [ha];decide)];rfl
 rw [how]
 refine GC.enter Tryz.func176 Tryz.ntmps176 rfl (by simp only [gframe,grep,Nat.reduceSub];rfl) ?_
 cases h0:(s==[]) with
 | false =>
  refine w_grun ?_
  refine w_gret ?_
  exact ⟨rfl,rfl⟩
 | true =>
  cases h1:((l.length:Int)==2) with
  | false =>
   have h1':((((encTs l).length:Int)==2))=false:=by rw [←encTs_len l] at h1;exact h1
   refine w_grun ?_
   refine w_gret ?_
   exact ⟨rfl,rfl⟩
  | true =>
   have h1':((((encTs l).length:Int)==2))=true:=by rw [←encTs_len l] at h1;exact h1
   refine w_grun ?_
   have hc:=l08Kinds_g (.mk ⟨10,a,0,s,ks⟩ l) 1 hl
   refine w_gcall [] (hc) ?_
   refine w_grun ?_
   refine w_gret ?_
   exact ⟨by first | rfl | (rw [encTs_len];rfl),rfl⟩
theorem own_11 (a:Int) (s:Str) (ks:List Int) (l:List T) (hs:s.length≤1099511627776) (hl:l.length≤1099511627776) (ha:decide (a < 0)=false):GF Tryz.prog 176 [.agg (cT (.mk ⟨11,a,0,s,ks⟩ l))] [] (.v (.bool (ownT (.mk ⟨11,a,0,s,ks⟩ l)))) []:=by
 have how:ownT (.mk ⟨11,a,0,s,ks⟩ l)=((s==[])&&(((l.length:Int)==1)&&kindsFrom 1 0 l)):=by unfold ownT own;rw [if_neg (by show ¬ (decide (a < 0)=true);rw [ha];decide)];rfl
 rw [how]
 refine GC.enter Tryz.func176 Tryz.ntmps176 rfl (by simp only [gframe,grep,Nat.reduceSub];rfl) ?_
 cases h0:(s==[]) with
 | false =>
  refine w_grun ?_
  refine w_gret ?_
  exact ⟨rfl,rfl⟩
 | true =>
  cases h1:((l.length:Int)==1) with
  | false =>
   have h1':((((encTs l).length:Int)==1))=false:=by rw [←encTs_len l] at h1;exact h1
   refine w_grun ?_
   refine w_gret ?_
   exact ⟨rfl,rfl⟩
  | true =>
   have h1':((((encTs l).length:Int)==1))=true:=by rw [←encTs_len l] at h1;exact h1
   refine w_grun ?_
   have hc:=l08Kinds_g (.mk ⟨11,a,0,s,ks⟩ l) 1 hl
   refine w_gcall [] (hc) ?_
   refine w_grun ?_
   refine w_gret ?_
   exact ⟨by first | rfl | (rw [encTs_len];rfl),rfl⟩
theorem own_12 (a:Int) (s:Str) (ks:List Int) (l:List T) (hs:s.length≤1099511627776) (hl:l.length≤1099511627776) (ha:decide (a < 0)=false):GF Tryz.prog 176 [.agg (cT (.mk ⟨12,a,0,s,ks⟩ l))] [] (.v (.bool (ownT (.mk ⟨12,a,0,s,ks⟩ l)))) []:=by
 have how:ownT (.mk ⟨12,a,0,s,ks⟩ l)=((s==[])&&(((l.length:Int)==1)&&kindsFrom 1 0 l)):=by unfold ownT own;rw [if_neg (by show ¬ (decide (a < 0)=true);rw [ha];decide)];rfl
 rw [how]
 refine GC.enter Tryz.func176 Tryz.ntmps176 rfl (by simp only [gframe,grep,Nat.reduceSub];rfl) ?_
 cases h0:(s==[]) with
 | false =>
  refine w_grun ?_
  refine w_gret ?_
  exact ⟨rfl,rfl⟩
 | true =>
  cases h1:((l.length:Int)==1) with
  | false =>
   have h1':((((encTs l).length:Int)==1))=false:=by rw [←encTs_len l] at h1;exact h1
   refine w_grun ?_
   refine w_gret ?_
   exact ⟨rfl,rfl⟩
  | true =>
   have h1':((((encTs l).length:Int)==1))=true:=by rw [←encTs_len l] at h1;exact h1
   refine w_grun ?_
   have hc:=l08Kinds_g (.mk ⟨12,a,0,s,ks⟩ l) 1 hl
   refine w_gcall [] (hc) ?_
   refine w_grun ?_
   refine w_gret ?_
   exact ⟨by first | rfl | (rw [encTs_len];rfl),rfl⟩
theorem own_13 (a:Int) (s:Str) (ks:List Int) (l:List T) (hs:s.length≤1099511627776) (hl:l.length≤1099511627776) (ha:decide (a < 0)=false):GF Tryz.prog 176 [.agg (cT (.mk ⟨13,a,0,s,ks⟩ l))] [] (.v (.bool (ownT (.mk ⟨13,a,0,s,ks⟩ l)))) []:=by
 have how:ownT (.mk ⟨13,a,0,s,ks⟩ l)=(nameOk s&&(((l.length:Int)==1)&&kindsFrom 1 0 l)):=by unfold ownT own;rw [if_neg (by show ¬ (decide (a < 0)=true);rw [ha];decide)];rfl
 rw [how]
 refine GC.enter Tryz.func176 Tryz.ntmps176 rfl (by simp only [gframe,grep,Nat.reduceSub];rfl) ?_
 cases h0:nameOk s with
 | false =>
  refine w_grun ?_
  have hc:=NameOk_g s hs
  rw [h0] at hc
  refine w_gcall [] (hc) ?_
  refine w_grun ?_
  refine w_gret ?_
  exact ⟨rfl,rfl⟩
 | true =>
  cases h1:((l.length:Int)==1) with
  | false =>
   have h1':((((encTs l).length:Int)==1))=false:=by rw [←encTs_len l] at h1;exact h1
   refine w_grun ?_
   have hc:=NameOk_g s hs
   rw [h0] at hc
   refine w_gcall [] (hc) ?_
   refine w_grun ?_
   refine w_gret ?_
   exact ⟨rfl,rfl⟩
  | true =>
   have h1':((((encTs l).length:Int)==1))=true:=by rw [←encTs_len l] at h1;exact h1
   refine w_grun ?_
   have hc:=NameOk_g s hs
   rw [h0] at hc
   refine w_gcall [] (hc) ?_
   refine w_grun ?_
   have hc:=l08Kinds_g (.mk ⟨13,a,0,s,ks⟩ l) 1 hl
   refine w_gcall [] (hc) ?_
   refine w_grun ?_
   refine w_gret ?_
   exact ⟨by first | rfl | (rw [encTs_len];rfl),rfl⟩
end Go.Xg
namespace Go.Xg
open Go.RowKit Go.Xw Go.Proofs
open Go.Xp (Tok Nd T signOf one levels Ar)
open Go.Sp
attribute [local irreducible] GW GL GO YG GC GA gthn ginb
theorem own_5 (a:Int) (s:Str) (ks:List Int) (l:List T) (hs:s.length≤1099511627776) (hl:l.length≤1099511627776) (ha:decide (a < 0)=false):GF Tryz.prog 176 [.agg (cT (.mk ⟨5,a,0,s,ks⟩ l))] [] (.v (.bool (ownT (.mk ⟨5,a,0,s,ks⟩ l)))) []:=by
 have how:ownT (.mk ⟨5,a,0,s,ks⟩ l)=((s==[45] || s==[33] || s==[126])&&(((l.length:Int)==1)&&kindsFrom 1 0 l)):=by unfold ownT own;rw [if_neg (by show ¬ (decide (a < 0)=true);rw [ha];decide)];rfl
 rw [how]
 refine GC.enter Tryz.func176 Tryz.ntmps176 rfl (by simp only [gframe,grep,Nat.reduceSub];rfl) ?_
 cases h1:(s==[45]) with
 | true =>
  cases h4:((l.length:Int)==1) with
  | false =>
   have h4':(((encTs l).length:Int)==1)=false:=by rw [←encTs_len l] at h4;exact h4
   refine w_grun ?_
   refine w_gret ?_
   exact ⟨rfl,rfl⟩
  | true =>
   have h4':(((encTs l).length:Int)==1)=true:=by rw [←encTs_len l] at h4;exact h4
   refine w_grun ?_
   have hc:=l08Kinds_g (.mk ⟨5,a,0,s,ks⟩ l) 1 hl
   refine w_gcall [] (hc) ?_
   refine w_grun ?_
   refine w_gret ?_
   exact ⟨rfl,rfl⟩
 | false =>
  cases h2:(s==[33]) with
  | true =>
   cases h4:((l.length:Int)==1) with
   | false =>
    have h4':(((encTs l).length:Int)==1)=false:=by rw [←encTs_len l] at h4;exact h4
    refine w_grun ?_
    refine w_gret ?_
    exact ⟨rfl,rfl⟩
   | true =>
    have h4':(((encTs l).length:Int)==1)=true:=by rw [←encTs_len l] at h4;exact h4
    refine w_grun ?_
    have hc:=l08Kinds_g (.mk ⟨5,a,0,s,ks⟩ l) 1 hl
    refine w_gcall [] (hc) ?_
    refine w_grun ?_
    refine w_gret ?_
    exact ⟨rfl,rfl⟩
  | false =>
   cases h3:(s==[126]) with
   | false =>
    refine w_grun ?_
    refine w_gret ?_
    exact ⟨rfl,rfl⟩
   | true =>
    cases h4:((l.length:Int)==1) with
    | false =>
     have h4':(((encTs l).length:Int)==1)=false:=by rw [←encTs_len l] at h4;exact h4
     refine w_grun ?_
     refine w_gret ?_
     exact ⟨rfl,rfl⟩
    | true =>
     have h4':(((encTs l).length:Int)==1)=true:=by rw [←encTs_len l] at h4;exact h4
     refine w_grun ?_
     have hc:=l08Kinds_g (.mk ⟨5,a,0,s,ks⟩ l) 1 hl
     refine w_gcall [] (hc) ?_
     refine w_grun ?_
     refine w_gret ?_
     exact ⟨rfl,rfl⟩
theorem own_9 (a:Int) (s:Str) (ks:List Int) (l:List T) (hs:s.length≤1099511627776) (hl:l.length≤1099511627776) (ha:decide (a < 0)=false):GF Tryz.prog 176 [.agg (cT (.mk ⟨9,a,0,s,ks⟩ l))] [] (.v (.bool (ownT (.mk ⟨9,a,0,s,ks⟩ l)))) []:=by
 have how:ownT (.mk ⟨9,a,0,s,ks⟩ l)=((s==[])&&((((l.length:Int)==2) || ((l.length:Int)==3))&&kindsFrom 1 0 l)):=by unfold ownT own;rw [if_neg (by show ¬ (decide (a < 0)=true);rw [ha];decide)];rfl
 rw [how]
 refine GC.enter Tryz.func176 Tryz.ntmps176 rfl (by simp only [gframe,grep,Nat.reduceSub];rfl) ?_
 cases h0:(s==[]) with
 | false =>
  refine w_grun ?_
  refine w_gret ?_
  exact ⟨rfl,rfl⟩
 | true =>
  cases h1:((l.length:Int)==2) with
  | true =>
   have h1':(((encTs l).length:Int)==2)=true:=by rw [←encTs_len l] at h1;exact h1
   refine w_grun ?_
   have hc:=l08Kinds_g (.mk ⟨9,a,0,s,ks⟩ l) 1 hl
   refine w_gcall [] (hc) ?_
   refine w_grun ?_
   refine w_gret ?_
   exact ⟨rfl,rfl⟩
  | false =>
   have h1':(((encTs l).length:Int)==2)=false:=by rw [←encTs_len l] at h1;exact h1
   cases h2:((l.length:Int)==3) with
   | true =>
    have h2':(((encTs l).length:Int)==3)=true:=by rw [←encTs_len l] at h2;exact h2
    refine w_grun ?_
    have hc:=l08Kinds_g (.mk ⟨9,a,0,s,ks⟩ l) 1 hl
    refine w_gcall [] (hc) ?_
    refine w_grun ?_
    refine w_gret ?_
    exact ⟨rfl,rfl⟩
   | false =>
    have h2':(((encTs l).length:Int)==3)=false:=by rw [←encTs_len l] at h2;exact h2
    refine w_grun ?_
    refine w_gret ?_
    exact ⟨rfl,rfl⟩
theorem own_14 (a:Int) (s:Str) (ks:List Int) (l:List T) (hs:s.length≤1099511627776) (hl:l.length≤1099511627776) (ha:decide (a < 0)=false):GF Tryz.prog 176 [.agg (cT (.mk ⟨14,a,0,s,ks⟩ l))] [] (.v (.bool (ownT (.mk ⟨14,a,0,s,ks⟩ l)))) []:=by
 have how:ownT (.mk ⟨14,a,0,s,ks⟩ l)=((l.all fun x=>isStmt x.n.kind)&&(s==[])):=by unfold ownT own;rw [if_neg (by show ¬ (decide (a < 0)=true);rw [ha];decide)];rfl
 rw [how]
 refine GC.enter Tryz.func176 Tryz.ntmps176 rfl (by simp only [gframe,grep,Nat.reduceSub];rfl) ?_
 refine w_grun ?_
 refine GW.range (encTs l).length (fun k fr Γ=>∃ n,fr=[.any,.loc 0 0,.any,.loc 1 0,.any,.any,.any,.any,.any,.any,.any,.any,.any,.any,.any,.any,.any,.any,.any,.any,.any,.any,.any,.any,.any,.any,.any,.any,.any,.any,.any,.any,.any,.any,.any,.any,.any,.any,.any,.any,.any,.any,.any,.any,.any,.any,.any,.any,.any,.any,.any,.any,.any,.any,.any,.any,.any,.any,.any,.any,.any,.any,.any,.any,.any,.any,.any,.any,.any,.any,.any,.any,.any,.any,.any,.any,.any,.any,.any,.any,.any,.any,.any,.any,.any,.any,.any,.any,.any,.any,.any,.any,.any,.any,.any,.any,.any,.any,.any,.any,.any,.any,.any,.any,.any,.any,.any,.any,.any,.any,.any,.any,.any,.any,.any,.any,.any,.any,.any,.any,.any,.any,.any,.any,.any,.any,.any,.any,.any,.any,.any,.any,.any,.any,.any,.any,.any,.any,.any,.any,.any,.any,.any,.any,.any,.any,.any,.any,.any,.any,.any,.any,.any,.any,.any,.any,.any,.any,.any,.any,.any,.any,.any,.any,.any,.any,.any,.any,.any,.any,.any,.any,.any,.any,.any,.any,.sl 6 (encTs l),.v (ii ((encTs l).length:Int)),.v (ii (k:Nat)),.any,.any,.any,.any,.any,.any,.any,.any,.any,.any,.any,.any]∧Γ=[.box 70 (cT (.mk ⟨14,a,0,s,ks⟩ l)),.box 61 n]∧n=encNode ⟨14,a,0,s,ks⟩∧((l.take k).all fun x=>isStmt x.n.kind)=true) ?_ (by rw [encTs_len];exact hl) ?_ ?_ ?_
 ·exact ⟨_,_,Wk.frm w_wkf,_,rfl,rfl,rfl,rfl⟩
 ·rintro k _ _ ⟨_,rfl,rfl,_⟩;exact ⟨rfl,rfl,rfl⟩
 ·rintro k _ _ hk ⟨_,rfl,rfl,rfl,hf⟩
  have hk:k < l.length:=by rw [encTs_len] at hk;exact hk
  have hx:l[k]?=some l[k]:=by simp [hk]
  have hr:=row_enc hx
  generalize l[k]=x at *
  have he:=l08IsStmt_g x.n.kind
  cases hb:isStmt x.n.kind with
  | true =>
   rw [hb] at he
   refine w_grun ?_
   refine w_gcall [] (he) ?_
   refine w_grun ?_
   exact ⟨rfl,rfl,_,_,(Wk.cut (n:=2) (Nat.le_of_ble_eq_true rfl) rfl).trans (Wk.frm w_wkf),_,rfl,rfl,rfl,by rw [List.take_add_one,hx,List.all_append,hf];simp only [Option.toList,List.all_cons,List.all_nil,hb];rfl⟩
  | false =>
   rw [hb] at he
   refine w_grun ?_
   refine w_gcall [] (he) ?_
   refine w_grun ?_
   refine w_gret ?_
   have ha:(l.all fun x=>isStmt x.n.kind)=false:=by
    rw [List.all_eq_false];exact ⟨x,List.mem_of_getElem? hx,by simp [hb]⟩
   rw [ha]
   exact ⟨rfl,rfl⟩
 ·rintro _ _ ⟨_,rfl,rfl,rfl,hf⟩
  have hf:(l.all fun x=>isStmt x.n.kind)=true:=by
   rw [List.take_of_length_le (by rw [encTs_len];omega)] at hf;exact hf
  rw [hf]
  refine w_grun ?_
  refine w_gret ?_
  exact ⟨rfl,rfl⟩
theorem own_x (k a n:Int) (s:Str) (ks:List Int) (l:List T) (hk:k=1∨k=2∨k=3∨k=4∨k=5∨k=6∨k=7∨k=8∨k=9∨k=10∨k=11∨k=12∨k=13∨k=14∨True) (hx:¬ (k=1∨k=2∨k=3∨k=4∨k=5∨k=6∨k=7∨k=8∨k=9∨k=10∨k=11∨k=12∨k=13∨k=14)) (ha:decide (a < 0)=false) (hn:(n != 0)=false):GF Tryz.prog 176 [.agg (cT (.mk ⟨k,a,n,s,ks⟩ l))] [] (.v (.bool (ownT (.mk ⟨k,a,n,s,ks⟩ l)))) []:=by
 simp only [not_or] at hx
 obtain ⟨h1,h2,h3,h4,h5,h6,h7,h8,h9,h10,h11,h12,h13,h14⟩:=hx
 have h1:(k==1)=false:=by simpa using h1
 have h1x:(k != 1)=true:=by simp only [bne,h1];rfl
 have h2:(k==2)=false:=by simpa using h2
 have h3:(k==3)=false:=by simpa using h3
 have h4:(k==4)=false:=by simpa using h4
 have h5:(k==5)=false:=by simpa using h5
 have h6:(k==6)=false:=by simpa using h6
 have h7:(k==7)=false:=by simpa using h7
 have h8:(k==8)=false:=by simpa using h8
 have h9:(k==9)=false:=by simpa using h9
 have h10:(k==10)=false:=by simpa using h10
 have h11:(k==11)=false:=by simpa using h11
 have h12:(k==12)=false:=by simpa using h12
 have h13:(k==13)=false:=by simpa using h13
 have h14:(k==14)=false:=by simpa using h14
 have how:ownT (.mk ⟨k,a,n,s,ks⟩ l)=false:=by
  show own ⟨k,a,n,s,ks⟩ _ _ _=_
  simp [own,h1,h2,h3,h4,h5,h6,h7,h8,h9,h10,h11,h12,h13,h14]
 rw [how]
 refine GC.enter Tryz.func176 Tryz.ntmps176 rfl (by simp only [gframe,grep,Nat.reduceSub];rfl) ?_
 refine w_grun ?_
 refine w_gret ?_
 exact ⟨rfl,rfl⟩
theorem own_a (k a n:Int) (s:Str) (ks:List Int) (l:List T) (ha:decide (a < 0)=true):GF Tryz.prog 176 [.agg (cT (.mk ⟨k,a,n,s,ks⟩ l))] [] (.v (.bool (ownT (.mk ⟨k,a,n,s,ks⟩ l)))) []:=by
 have how:ownT (.mk ⟨k,a,n,s,ks⟩ l)=false:=by
  show own ⟨k,a,n,s,ks⟩ _ _ _=_
  unfold own;rw [if_pos ha]
 rw [how]
 refine GC.enter Tryz.func176 Tryz.ntmps176 rfl (by simp only [gframe,grep,Nat.reduceSub];rfl) ?_
 refine w_grun ?_
 refine w_gret ?_
 exact ⟨rfl,rfl⟩
theorem own_n (k a n:Int) (s:Str) (ks:List Int) (l:List T) (ha:decide (a < 0)=false) (hk:(k != 1)=true) (hn:(n != 0)=true):GF Tryz.prog 176 [.agg (cT (.mk ⟨k,a,n,s,ks⟩ l))] [] (.v (.bool (ownT (.mk ⟨k,a,n,s,ks⟩ l)))) []:=by
 have how:ownT (.mk ⟨k,a,n,s,ks⟩ l)=false:=by
  show own ⟨k,a,n,s,ks⟩ _ _ _=_
  unfold own;rw [if_neg (by show ¬ (decide (a < 0)=true);rw [ha];decide),if_pos (by show ((k != 1)&&(n != 0))=true;rw [hk,hn];rfl)]
 rw [how]
 refine GC.enter Tryz.func176 Tryz.ntmps176 rfl (by simp only [gframe,grep,Nat.reduceSub];rfl) ?_
 refine w_grun ?_
 refine w_gret ?_
 exact ⟨rfl,rfl⟩
theorem l08Own_g (t:T) (hs:t.n.s.length≤1099511627776) (hl:t.kids.length≤1099511627776):GF Tryz.prog 176 [.agg (cT t)] [] (.v (.bool (ownT t))) []:=by
 obtain ⟨⟨k,a,n,s,ks⟩,l⟩:=t
 cases ha:decide (a < 0) with
 | true=>exact own_a k a n s ks l ha
 | false =>
 by_cases hk1:k=1
 ·subst hk1;exact own_1 a n s ks l hs hl ha
 by_cases hn:n=0
 ·subst hn
  by_cases h:k=1∨k=2∨k=3∨k=4∨k=5∨k=6∨k=7∨k=8∨k=9∨k=10∨k=11∨k=12∨k=13∨k=14
  ·rcases h with rfl | rfl | rfl | rfl | rfl | rfl | rfl | rfl | rfl | rfl | rfl | rfl | rfl | rfl
   ·exact absurd rfl hk1
   ·exact own_2 a s ks l hs hl ha
   ·exact own_3 a s ks l hs hl ha
   ·exact own_4 a s ks l hs hl ha
   ·exact own_5 a s ks l hs hl ha
   ·exact own_6 a s ks l hs hl ha
   ·exact own_7 a s ks l hs hl ha
   ·exact own_8 a s ks l hs hl ha
   ·exact own_9 a s ks l hs hl ha
   ·exact own_10 a s ks l hs hl ha
   ·exact own_11 a s ks l hs hl ha
   ·exact own_12 a s ks l hs hl ha
   ·exact own_13 a s ks l hs hl ha
   ·exact own_14 a s ks l hs hl ha
  ·exact own_x k a 0 s ks l (by simp) h ha rfl
 ·exact own_n k a n s ks l ha (by simpa using hk1) (by simpa using hn)
end Go.Xg
namespace Go.Xg
open Go.RowKit Go.Xw Go.Proofs
open Go.Xp (Tok Nd T signOf one levels Ar)
open Go.Sp
attribute [local irreducible] GW GL GO YG GC GA gthn ginb
theorem allTs_all (l:List T):allTs l=l.all allT:=by
 induction l with
 | nil=>simp [allTs]
 | cons a l ih=>simp [allTs,ih]
theorem l08All_n:∀ (sz:Nat) (t:T),SizeOf.sizeOf t≤sz→smT t→GF Tryz.prog 133 [.agg (cT t)] [] (.v (.bool (allT t))) []:=by
 intro sz
 induction sz with
 | zero=>intro t h _;cases t;simp at h
 | succ sz ih =>
 intro t hsz hsm
 obtain ⟨n,l⟩:=t
 have hsm':=hsm
 rw [smT] at hsm
 obtain ⟨hs,hl,hm⟩:=hsm
 have how:allT (.mk n l)=(allTs l&&ownT (.mk n l)):=by rw [allT]
 rw [how]
 rw [allTs_all]
 refine GC.enter Tryz.func133 Tryz.ntmps133 rfl (by simp only [gframe,grep,Nat.reduceSub];rfl) ?_
 refine w_grun ?_
 refine GW.range (encTs l).length (fun k fr Γ=>fr=[.any,.loc 0 0,.any,.any,.any,.any,.sl 6 (encTs l),.v (ii ((encTs l).length:Int)),.v (ii (k:Nat)),.any,.any,.any,.any,.any,.any,.any,.any,.any]∧Γ=[.box 70 (cT (.mk n l))]∧((l.take k).all allT)=true) ?_ (by rw [encTs_len];exact hl) ?_ ?_ ?_
 ·exact ⟨_,_,Wk.frm w_wkf,rfl,rfl,rfl⟩
 ·rintro k _ _ ⟨rfl,rfl,_⟩;exact ⟨rfl,rfl,rfl⟩
 ·rintro k _ _ hk ⟨rfl,rfl,hf⟩
  have hk:k < l.length:=by rw [encTs_len] at hk;exact hk
  have hx:l[k]?=some l[k]:=by simp [hk]
  have hmem:=List.mem_of_getElem? hx
  have hlt:=List.sizeOf_lt_of_mem hmem
  have hr:=row_enc hx
  have he:=ih l[k] (by simp at hsz;omega) (smTs_mem hm hmem)
  generalize l[k]=x at *
  cases hb:allT x with
  | true =>
   rw [hb] at he
   refine w_grun ?_
   refine w_gcall [] (he) ?_
   refine w_grun ?_
   exact ⟨rfl,rfl,_,_,(Wk.cut (n:=1) (Nat.le_of_ble_eq_true rfl) rfl).trans (Wk.frm w_wkf),rfl,rfl,by rw [List.take_add_one,hx,List.all_append,hf];simp only [Option.toList,List.all_cons,List.all_nil,hb];rfl⟩
  | false =>
   rw [hb] at he
   refine w_grun ?_
   refine w_gcall [] (he) ?_
   refine w_grun ?_
   refine w_gret ?_
   have ha:(l.all allT)=false:=by
    rw [List.all_eq_false];exact ⟨x,List.mem_of_getElem? hx,by simp [hb]⟩
   rw [ha]
   exact ⟨rfl,rfl⟩
 ·rintro _ _ ⟨rfl,rfl,hf⟩
  have hf:(l.all allT)=true:=by
   rw [List.take_of_length_le (by rw [encTs_len];omega)] at hf;exact hf
  rw [hf]
  refine w_grun ?_
  refine w_gcall [] (l08Own_g (.mk n l) hs hl) ?_
  refine w_grun ?_
  refine w_gret ?_
  exact ⟨rfl,rfl⟩
theorem l08All_g (t:T) (h:smT t):GF Tryz.prog 133 [.agg (cT t)] [] (.v (.bool (allT t))) []:=l08All_n _ t (Nat.le_refl _) h
end Go.Xg
namespace Go.Xg
open Go.RowKit Go.Xw Go.Proofs
open Go.Xp (Tok Nd T signOf one levels Ar)
open Go.Sp
attribute [local irreducible] GW GL GO YG GC GA gthn ginb
structure smSrc (p:Src):Prop where
 globals:p.globals.length≤1000000000000∧∀ s∈p.globals,s.length≤1000000000000
 arrays:p.arrays.length≤1000000000000∧∀ a∈p.arrays,a.name.length≤1000000000000
 fns:p.fns.length≤1000000000000∧∀ f∈p.fns,f.name.length≤1000000000000∧f.params.length≤1000000000000∧∀ s∈f.params,s.length≤1000000000000
 nodes:p.nodes.length≤1000000000000∧∀ n∈p.nodes,n.s.length≤1000000000000∧n.kids.length≤1000000000000
theorem row_str {l:List Str} {i:Nat} {s:Str} (h:l[i]?=some s):(l.map fun s=>[GV.v (sv s)])[i]?=some [.v (sv s)]:=by rw [List.getElem?_map,h];rfl
theorem row_ar {l:List Ar} {i:Nat} {s:Ar} (h:l[i]?=some s):(l.map encAr)[i]?=some (encAr s):=by rw [List.getElem?_map,h];rfl
theorem row_fn {l:List Go.Sp.Fn} {i:Nat} {s:Go.Sp.Fn} (h:l[i]?=some s):(l.map encFn)[i]?=some (encFn s):=by rw [List.getElem?_map,h];rfl
theorem all_step {α:Type} {l:List α} {q:α→Bool} {k:Nat} {x:α} (hx:l[k]?=some x) (hf:(l.take k).all q=true) (hb:q x=true):(l.take (k+1)).all q=true:=by
 rw [List.take_add_one,hx,List.all_append,hf];simp [hb]
theorem all_no {α:Type} {l:List α} {q:α→Bool} {k:Nat} {x:α} (hx:l[k]?=some x) (hb:q x=false):l.all q=false:=by
 rw [List.all_eq_false];exact ⟨x,List.mem_of_getElem? hx,by simp [hb]⟩
theorem l08Stand_g (p:Src) (hp:smSrc p) (b:Bool) (h:stand p=some b):GF Tryz.prog 89 [.agg (encSrc p)] [] (.v (.bool b)) []:=by
 unfold stand at h
 refine GC.enter Tryz.func89 Tryz.ntmps89 rfl (by simp only [gframe,grep,Nat.reduceSub];rfl) ?_
 refine w_grun ?_
 refine GW.range (p.globals.map fun s=>[GV.v (sv s)]).length (fun k fr Γ=>fr=[.any,.loc 0 0,.any,.v (ii 0),.any,.any,.any,.any,.any,.any,.any,.any,.any,.any,.any,strs p.globals,.v (ii ((p.globals.map fun s=>[GV.v (sv s)]).length:Int)),.v (ii (k:Nat)),.any,.any,.any,.any,.any,.any,.any,.any,.any,.any,.any,.any,.any,.any,.any,.any,.any,.any,.any,.any,.any,.any,.any,.any,.any,.any,.any,.any,.any,.any,.any,.any,.any,.any,.any,.any,.any,.any,.any,.any,.any,.any,.any,.any,.any,.any,.any,.any,.any,.any,.any,.any,.any,.any,.any,.any,.any,.any,.any,.any,.any,.any,.any,.any,.any,.any,.any,.any,.any,.any,.any,.any,.any,.any,.any,.any,.any,.any,.any,.any,.any,.any,.any,.any,.any,.any,.any]∧Γ=[.box 28 (encSrc p)]∧((p.globals.take k).all nameOk)=true) ?_ (by simpa using by have:=hp.globals.1;omega) ?_ ?_ ?_
 ·exact ⟨_,_,Wk.frm w_wkf,rfl,rfl,rfl⟩
 ·rintro k _ _ ⟨rfl,rfl,_⟩;exact ⟨rfl,rfl,rfl⟩
 ·rintro k _ _ hk ⟨rfl,rfl,hf⟩
  have hk:k < p.globals.length:=by simpa using hk
  have hx:p.globals[k]?=some p.globals[k]:=by simp [hk]
  have hr:=row_str hx
  have hl:=hp.globals.2 _ (List.mem_of_getElem? hx)
  generalize p.globals[k]=x at *
  have he:=NameOk_g x (by omega)
  cases hb:nameOk x with
  | true =>
   rw [hb] at he
   refine w_grun ?_
   refine w_gcall [] (he) ?_
   refine w_grun ?_
   exact ⟨rfl,rfl,_,_,Wk.frm w_wkf,rfl,rfl,all_step hx hf hb⟩
  | false =>
   rw [hb] at he
   rw [if_pos (show namesOk p.globals=false from all_no hx hb)] at h
   cases h
   refine w_grun ?_
   refine w_gcall [] (he) ?_
   refine w_grun ?_
   refine w_gret ?_
   exact ⟨rfl,rfl⟩
 ·rintro _ _ ⟨rfl,rfl,hf⟩
  rw [List.take_of_length_le (by simp)] at hf
  rw [if_neg (by rw [show namesOk p.globals=true from hf];decide)] at h
  refine w_grun ?_
  refine GW.range (p.arrays.map encAr).length (fun k fr Γ=>fr=[.any,.loc 0 0,.any,.v (ii 0),.any,.any,.any,.any,.any,.any,.any,.any,.any,.any,.any,.any,.any,.any,.any,.any,.any,.any,.any,.any,.any,.any,.sl 2 (p.arrays.map encAr),.v (ii ((p.arrays.map encAr).length:Int)),.v (ii (k:Nat)),.any,.any,.any,.any,.any,.any,.any,.any,.any,.any,.any,.any,.any,.any,.any,.any,.any,.any,.any,.any,.any,.any,.any,.any,.any,.any,.any,.any,.any,.any,.any,.any,.any,.any,.any,.any,.any,.any,.any,.any,.any,.any,.any,.any,.any,.any,.any,.any,.any,.any,.any,.any,.any,.any,.any,.any,.any,.any,.any,.any,.any,.any,.any,.any,.any,.any,.any,.any,.any,.any,.any,.any,.any,.any,.any,.any]∧Γ=[.box 28 (encSrc p)]∧((p.arrays.take k).all arOk)=true) ?_ (by simpa using by have:=hp.arrays.1;omega) ?_ ?_ ?_
  ·exact ⟨_,_,Wk.frm w_wkf,rfl,rfl,rfl⟩
  ·rintro k _ _ ⟨rfl,rfl,_⟩;exact ⟨rfl,rfl,rfl⟩
  ·rintro k _ _ hk ⟨rfl,rfl,hf⟩
   have hk:k < p.arrays.length:=by simpa using hk
   have hx:p.arrays[k]?=some p.arrays[k]:=by simp [hk]
   have hr:=row_ar hx
   have hl:=hp.arrays.2 _ (List.mem_of_getElem? hx)
   generalize p.arrays[k]=x at *
   have he:=NameOk_g x.name (by omega)
   cases hb:nameOk x.name with
   | false =>
    rw [hb] at he
    rw [if_pos (all_no hx (by simp [arOk,hb]))] at h
    cases h
    refine w_grun ?_
    refine w_gcall [] (he) ?_
    refine w_grun ?_
    refine w_gret ?_
    exact ⟨rfl,rfl⟩
   | true =>
    rw [hb] at he
    cases h1:decide (x.size < 0) with
    | true =>
     rw [if_pos (all_no hx (by simp only [arOk,hb,h1];rfl))] at h
     cases h
     refine w_grun ?_
     refine w_gcall [] (he) ?_
     refine w_grun ?_
     refine w_gret ?_
     exact ⟨rfl,rfl⟩
    | false =>
     cases h2:decide (2147483647 < x.size) with
     | true =>
      rw [if_pos (all_no hx (by simp only [arOk,hb,h1,h2];rfl))] at h
      cases h
      refine w_grun ?_
      refine w_gcall [] (he) ?_
      refine w_grun ?_
      refine w_gret ?_
      exact ⟨rfl,rfl⟩
     | false =>
      refine w_grun ?_
      refine w_gcall [] (he) ?_
      refine w_grun ?_
      exact ⟨rfl,rfl,_,_,(Wk.cut (n:=1) (Nat.le_of_ble_eq_true rfl) rfl).trans (Wk.frm w_wkf),rfl,rfl,all_step hx hf (by simp only [arOk,hb,h1,h2];rfl)⟩
  ·rintro _ _ ⟨rfl,rfl,hf⟩
   rw [List.take_of_length_le (by simp)] at hf
   rw [if_neg (by rw [hf];decide)] at h
   refine w_grun ?_
   refine GW.range (p.fns.map encFn).length (fun k fr Γ=>∃ nx,fr=[.any,.loc 0 0,.any,.v (ii nx),.any,.any,.any,.any,.any,.any,.any,.any,.any,.any,.any,.any,.any,.any,.any,.any,.any,.any,.any,.any,.any,.any,.any,.any,.any,.any,.any,.any,.any,.any,.any,.any,.any,.any,.any,.any,.any,.any,.any,.any,.any,.any,.any,.any,.sl 3 (p.fns.map encFn),.v (ii ((p.fns.map encFn).length:Int)),.v (ii (k:Nat)),.any,.any,.any,.any,.any,.any,.any,.any,.any,.any,.any,.any,.any,.any,.any,.any,.any,.any,.any,.any,.any,.any,.any,.any,.any,.any,.any,.any,.any,.any,.any,.any,.any,.any,.any,.any,.any,.any,.any,.any,.any,.any,.any,.any,.any,.any,.any,.any,.any,.any,.any,.any,.any,.any]∧Γ=[.box 28 (encSrc p)]∧0≤nx∧(match fnsStand p.nodes (p.fns.drop k) nx with | none=>none | some none=>some false | some (some next)=>some (next==(p.nodes.length:Int)&&decide (next≤800)))=some b) ?_ (by simpa using by have:=hp.fns.1;omega) ?_ ?_ ?_
   ·exact ⟨_,_,Wk.frm w_wkf,_,rfl,rfl,Int.le_refl _,h⟩
   ·rintro k _ _ ⟨_,rfl,rfl,_⟩;exact ⟨rfl,rfl,rfl⟩
   ·clear h hf
    rintro k _ _ hk ⟨nx,rfl,rfl,hnx,h⟩
    have hk:k < p.fns.length:=by simpa using hk
    have hx:p.fns[k]?=some p.fns[k]:=by simp [hk]
    have hr:=row_fn hx
    have hl:=hp.fns.2 _ (List.mem_of_getElem? hx)
    rw [List.drop_eq_getElem_cons hk,fnsStand] at h
    generalize p.fns[k]=x at *
    cases he:endN p.nodes (fN p.nodes) nx.toNat 0 with
    | none=>rw [he] at h;cases h
    | some e =>
    rw [he] at h
    simp only at h
    have hend:=end_g p hp.nodes.1 (fun n hn=>(hp.nodes.2 n hn).2) _ _ 0 _ (by omega) he
    rw [Int.toNat_of_nonneg hnx] at hend
    have hno:=NameOk_g x.name (by omega)
    by_cases h1:x.body=nx
    ·have h1':(x.body != nx)=false:=by simpa using h1
     cases hb:nameOk x.name with
     | false =>
      rw [hb] at hno
      rw [if_pos (.inr (.inl hb))] at h
      cases h
      refine w_grun ?_
      refine w_gcall [] (hend) ?_
      refine w_grun ?_
      refine w_gcall [] (hno) ?_
      refine w_grun ?_
      refine w_gret ?_
      exact ⟨rfl,rfl⟩
     | true =>
      rw [hb] at hno
      by_cases h2:e < 0
      ·have h2':decide (e < 0)=true:=by simpa using h2
       rw [if_pos (.inr (.inr h2))] at h
       cases h
       refine w_grun ?_
       refine w_gcall [] (hend) ?_
       refine w_grun ?_
       refine w_gcall [] (hno) ?_
       refine w_grun ?_
       refine w_gret ?_
       exact ⟨rfl,rfl⟩
      ·have h2':decide (e < 0)=false:=by simpa using h2
       rw [if_neg (by rw [hb];simp [h1,h2])] at h
       refine w_grun ?_
       refine w_gcall [] (hend) ?_
       refine w_grun ?_
       refine w_gcall [] (hno) ?_
       refine w_grun ?_
       refine GW.range (x.params.map fun s=>[GV.v (sv s)]).length (fun j fr Γ=>fr=[.any,.loc 0 0,.any,.v (ii nx),.any,.any,.any,.any,.any,.loc 1 0,.v (ii e),.any,.any,.any,.any,.any,.any,.any,.any,.any,.any,.any,.any,.any,.any,.any,.any,.any,.any,.any,.any,.any,.any,.any,.any,.any,.any,.any,.any,.any,.any,.any,.any,.any,.any,.any,.any,.any,.sl 3 (p.fns.map encFn),.v (ii ((p.fns.map encFn).length:Int)),.v (ii (k:Nat)),.any,.any,.any,.any,.any,.any,.any,.any,.any,.any,.any,.any,.any,.any,.any,.any,.any,.any,.any,.any,.any,strs x.params,.v (ii ((x.params.map fun s=>[GV.v (sv s)]).length:Int)),.v (ii (j:Nat)),.any,.any,.any,.any,.any,.any,.any,.any,.any,.any,.any,.any,.any,.any,.any,.any,.any,.any,.any,.any,.any,.any,.any,.any,.any,.any,.any,.any,.any,.any]∧Γ=[.box 28 (encSrc p),.box 89 (encFn x)]∧((x.params.take j).all nameOk)=true) ?_ (by simpa using by omega) ?_ ?_ ?_
       ·exact ⟨_,_,Wk.frm w_wkf,rfl,rfl,rfl⟩
       ·rintro k _ _ ⟨rfl,rfl,_⟩;exact ⟨rfl,rfl,rfl⟩
       ·rintro j _ _ hj ⟨rfl,rfl,hf⟩
        have hj:j < x.params.length:=by simpa using hj
        have hxs:x.params[j]?=some x.params[j]:=by simp [hj]
        have hrs:=row_str hxs
        have hls:=hl.2.2 _ (List.mem_of_getElem? hxs)
        generalize x.params[j]=y at *
        have hn2:=NameOk_g y (by omega)
        cases hb:nameOk y with
        | true =>
         rw [hb] at hn2
         refine w_grun ?_
         refine w_gcall [] (hn2) ?_
         refine w_grun ?_
         exact ⟨rfl,rfl,_,_,Wk.frm w_wkf,rfl,rfl,all_step hxs hf hb⟩
        | false =>
         rw [hb] at hn2
         rw [if_pos (show namesOk x.params=false from all_no hxs hb)] at h
         cases h
         refine w_grun ?_
         refine w_gcall [] (hn2) ?_
         refine w_grun ?_
         refine w_gret ?_
         exact ⟨rfl,rfl⟩
       ·rintro _ _ ⟨rfl,rfl,hf⟩
        rw [List.take_of_length_le (by simp)] at hf
        rw [if_neg (by rw [show namesOk x.params=true from hf];decide)] at h
        cases hs:sub p.nodes (fN p.nodes) nx.toNat with
        | none=>rw [hs] at h;cases h
        | some t =>
        rw [hs] at h
        simp only at h
        have hsub:=sub_g p (fun n hn=>(hp.nodes.2 n hn).2) _ _ _ hs
        rw [Int.toNat_of_nonneg hnx] at hsub
        have hall:=l08All_g t ((sub_sm (fun n hn=>by have:=hp.nodes.2 n hn;omega) _).1 _ _ hs)
        by_cases h3:t.n.kind=14
        ·have h3':(t.n.kind != 14)=false:=by simpa using h3
         cases hb:allT t with
         | false =>
          rw [hb] at hall
          rw [if_pos (.inr hb)] at h
          cases h
          refine w_grun ?_
          refine w_gcall [] (hsub) ?_
          refine w_grun ?_
          refine w_gcall [] (hall) ?_
          refine w_grun ?_
          refine w_gret ?_
          exact ⟨rfl,rfl⟩
         | true =>
          rw [hb] at hall
          rw [if_neg (by rw [hb];simp [h3])] at h
          refine w_grun ?_
          refine w_gcall [] (hsub) ?_
          refine w_grun ?_
          refine w_gcall [] (hall) ?_
          refine w_grun ?_
          exact ⟨rfl,rfl,_,_,(Wk.cut (n:=1) (Nat.le_of_ble_eq_true rfl) rfl).trans (Wk.frm w_wkf),_,rfl,rfl,by omega,h⟩
        ·have h3':(t.n.kind != 14)=true:=by simpa using h3
         rw [if_pos (.inl h3)] at h
         cases h
         refine w_grun ?_
         refine w_gcall [] (hsub) ?_
         refine w_grun ?_
         refine w_gret ?_
         exact ⟨rfl,rfl⟩
    ·have h1':(x.body != nx)=true:=by simpa using h1
     rw [if_pos (.inl h1)] at h
     cases h
     refine w_grun ?_
     refine w_gcall [] (hend) ?_
     refine w_grun ?_
     refine w_gret ?_
     exact ⟨rfl,rfl⟩
   ·clear h hf
    rintro _ _ ⟨nx,rfl,rfl,hnx,h⟩
    rw [List.length_map,List.drop_length,fnsStand] at h
    simp only at h
    cases h
    cases h1:(nx==(p.nodes.length:Int)) with
    | false =>
     have h1':(nx==((p.nodes.map encNode).length:Int))=false:=by rw [List.length_map];exact h1
     refine w_grun ?_
     refine w_gret ?_
     exact ⟨rfl,rfl⟩
    | true =>
     have h1':(nx==((p.nodes.map encNode).length:Int))=true:=by rw [List.length_map];exact h1
     refine w_grun ?_
     refine w_gret ?_
     exact ⟨rfl,rfl⟩
end Go.Xg
namespace Go.Xg
open Go.RowKit Go.Xw Go.Proofs
open Go.Xp (Tok Nd T signOf one levels Ar)
open Go.Sp
attribute [local irreducible] GW GL GO YG GC GA gthn ginb
def tightOf (k:Int) (s:Str):Int:=if k=6 then (match levels.findIdx? (fun l=>l.contains s) with | some i=>(i:Int) | none => -1) else 9
theorem l08Tight_g (t:T):GF Tryz.prog 91 [.agg (cT t)] [] (.v (.int .i64 (tightOf t.n.kind t.n.s))) []:=by
 refine GC.enter Tryz.func91 Tryz.ntmps91 rfl (by simp only [gframe,grep,Nat.reduceSub];rfl) ?_
 by_cases h6:t.n.kind=6
 ·have h6':(t.n.kind != 6)=false:=by simpa using h6
  unfold tightOf
  rw [if_pos h6]
  refine w_grun ?_
  refine w_gcall [] (l08Levels_g) ?_
  refine w_grun ?_
  refine GW.range (levels.map fun l=>[strs l]).length (fun k fr Γ=>fr=[.any,.loc 0 0,.any,.any,.any,.any,.any,.any,.any,.any,.any,.sl 1 (levels.map fun l=>[strs l]),.v (ii ((levels.map fun l=>[strs l]).length:Int)),.v (ii (k:Nat)),.any,.any,.any,.any,.any,.any,.any,.any,.any,.any,.any]∧Γ=[.box 70 (cT t)]∧((levels.take k).any fun l=>l.contains t.n.s)=false) ?_ (by decide) ?_ ?_ ?_
  ·exact ⟨_,_,Wk.frm w_wkf,rfl,rfl,rfl⟩
  ·rintro k _ _ ⟨rfl,rfl,_⟩;exact ⟨rfl,rfl,rfl⟩
  ·rintro k _ _ hk ⟨rfl,rfl,hf⟩
   have hk:k < levels.length:=by simpa using hk
   have hx:levels[k]?=some levels[k]:=by simp [hk]
   have hr:(levels.map fun l=>[strs l])[k]?=some [strs levels[k]]:=by simp [hk]
   have hxl:levels[k].length≤1099511627776:=by
    have:∀ l∈levels,l.length≤1099511627776:=by decide
    exact this _ (List.getElem_mem hk)
   have hfi:levels[k].contains t.n.s=true→levels.findIdx? (fun l=>l.contains t.n.s)=some k:=by
    intro hc
    rw [List.findIdx?_eq_some_iff_getElem]
    refine ⟨hk,hc,fun j hj=>?_⟩
    rw [List.any_eq_false] at hf
    refine hf _ ?_
    rw [List.mem_take_iff_getElem]
    exact ⟨j,by omega,rfl⟩
   generalize levels[k]=x at *
   have hh:=l07Has_g x t.n.s hxl
   cases hb:x.contains t.n.s with
   | true =>
    rw [hb] at hh
    rw [hfi hb]
    refine w_grun ?_
    refine w_gcall [] (hh) ?_
    refine w_grun ?_
    refine w_gret ?_
    exact ⟨rfl,rfl⟩
   | false =>
    rw [hb] at hh
    refine w_grun ?_
    refine w_gcall [] (hh) ?_
    refine w_grun ?_
    exact ⟨rfl,rfl,_,_,Wk.frm w_wkf,rfl,rfl,by rw [List.take_add_one,hx,List.any_append,hf];simp only [Option.toList,List.any_cons,List.any_nil,hb];rfl⟩
  ·rintro _ _ ⟨rfl,rfl,hf⟩
   rw [List.take_of_length_le (by simp)] at hf
   have hn:levels.findIdx? (fun l=>l.contains t.n.s)=none:=by
    rw [List.findIdx?_eq_none_iff];intro x hx;rw [List.any_eq_false] at hf;simpa using hf x hx
   rw [hn]
   refine w_grun ?_
   refine w_gret ?_
   exact ⟨rfl,rfl⟩
 ·have h6':(t.n.kind != 6)=true:=by simpa using h6
  unfold tightOf
  rw [if_neg h6]
  refine w_grun ?_
  refine w_gcall [] (l08Levels_g) ?_
  refine w_grun ?_
  refine w_gret ?_
  exact ⟨rfl,rfl⟩
end Go.Xg
namespace Go.Xg
open Go.RowKit Go.Xw
theorem low32 (n:Int):bits .and .i64 n 4294967295=n % 4294967296:=by
 have h:(BitVec.ofInt 64 4294967295).toNat=2 ^ 32 - 1:=by decide
 have key:(BitVec.ofInt 64 n &&& BitVec.ofInt 64 4294967295).toNat=(n % ((2 ^ 64:Nat):Int)).toNat % 2 ^ 32:=by
  rw [BitVec.toNat_and,BitVec.toNat_ofInt,h,Nat.and_two_pow_sub_one_eq_mod]
 show IntKind.i64.wrap ((BitVec.ofInt 64 n &&& BitVec.ofInt 64 4294967295).toNat:Nat)=n % 4294967296
 rw [key,IntKind.wrap_i64]
 omega
section
variable {P:Program} {fr:List GV} {Γ:List Ob}
theorem YG.low32 {x y:Operand} {t t':TypeId} {a:Int} (hx:gev fr x=.v (ii a)) (hy:gev fr y=.v (ii 4294967295)):YG P (.binOp .and t x y t') fr Γ (.v (ii (a % 4294967296))) :=
 YG.v2 hx hy fun l w h k d ty pos af=>by
  simp [execOp,eqGuard,h,k,binOp,intBits_and,Go.Xg.low32]
end
end Go.Xg
namespace Go.Xg
open Go.RowKit Go.Xw Go.Proofs
open Go.Xp (Tok Nd T signOf one levels Ar wrp32 digs digs_len)
open Go.Sp
attribute [local irreducible] GW GL GO YG GC GA gthn ginb
theorem Plain_g (n:Int):GF Tryz.prog 155 [.v (ii n)] [] (.v (ii (n % 4294967296))) []:=by
 refine GC.enter Tryz.func155 Tryz.ntmps155 rfl (by simp only [gframe,grep,Nat.reduceSub];rfl) ?_
 refine w_grun ?_
 refine w_gret ?_
 exact ⟨rfl,rfl⟩
theorem Wrap_g (n:Int):GF Tryz.prog 112 [.v (ii n)] [] (.v (ii (wrp32 n))) []:=by
 unfold wrp32
 have hb:0≤n % 4294967296∧n % 4294967296 < 4294967296:=by omega
 have hp:=Plain_g n
 generalize n % 4294967296=m at *
 refine GC.enter Tryz.func112 Tryz.ntmps112 rfl (by simp only [gframe,grep,Nat.reduceSub];rfl) ?_
 by_cases h:m > 2147483647
 ·have h':decide ((2147483647:Int) < m)=true:=by simpa using h
  rw [if_pos h]
  refine w_grun ?_
  refine w_gcall [] (hp) ?_
  refine w_grun ?_
  refine w_gret ?_
  exact ⟨rfl,rfl⟩
 ·have h':decide ((2147483647:Int) < m)=false:=by simpa using h
  rw [if_neg h]
  refine w_grun ?_
  refine w_gcall [] (hp) ?_
  refine w_grun ?_
  refine w_gret ?_
  exact ⟨rfl,rfl⟩
theorem ofNat_row (k:Nat) (h:k≤57):[[GV.v (.int .u8 (k:Int))]]=[UInt8.ofNat k].map fun c=>[GV.v (.int .u8 (c.toNat:Int))]:=by
 have:(UInt8.ofNat k).toNat=k:=by simp;omega
 simp [this]
theorem l01Digits_g (n:Nat) (hn:n≤1099511627776):GF Tryz.prog 113 [.v (ii (n:Int))] [] (.v (sv (digs n))) []:=by
 induction n using Nat.strongRecOn with
 | _ n ih =>
 unfold digs
 refine GC.enter Tryz.func113 Tryz.ntmps113 rfl (by simp only [gframe,grep,Nat.reduceSub];rfl) ?_
 by_cases h:n < 10
 ·have h':decide ((n:Int) < 10)=true:=by simpa using by omega
  have hw:=ofNat_row (48+n) (by omega)
  rw [Int.natCast_add] at hw
  rw [dif_pos h]
  refine w_grun ?_
  refine w_gmk ?_
  refine w_grun ?_
  refine w_gret ?_
  exact ⟨rfl,rfl⟩
 ·have h':decide ((n:Int) < 10)=false:=by simpa using by omega
  rw [dif_neg h]
  have hc:=ih (n / 10) (by omega) (by omega)
  have hl:=digs_len (n / 10)
  have hw:=ofNat_row (48+n % 10) (by omega)
  rw [Int.natCast_add] at hw
  refine w_grun ?_
  refine GW.draw (.q 0 (.q 1 (.q 3 (.q 4 (.q 5 (.q 6 (.f 2 (.a 7 (.q 8 (.q 9 (.q 10 .nil)))) 7 (.q 8 (.a 2 (.q 9 (.q 10 .nil))))))))))) (by kernel_rfl) (by kernel_rfl) ?_
  refine w_gorun ?_
  refine GO.fork ?_ ?_
  ·refine w_gocall [] (hc) ?_
   refine w_gorun ?_
   refine w_gomk ?_
   refine w_gorun ?_
   refine w_grun ?_
   refine w_gret ?_
   exact ⟨rfl,rfl⟩
  ·refine w_gomk ?_
   refine w_gorun ?_
   refine w_gocall [] (hc) ?_
   refine w_gorun ?_
   refine w_grun ?_
   refine w_gret ?_
   exact ⟨rfl,rfl⟩
end Go.Xg
namespace Go.Xg
open Go.RowKit Go.Xw Go.Proofs
open Go.Xp (Tok Nd T signOf one levels Ar wrp32 digs digs_len E S er ers wt wts brt lvOf joinC)
open Go.Sp
attribute [local irreducible] GW GL GO YG GC GA gthn ginb
theorem er_inv {nd:Nd} {l l':List T} {k v:Int} {s:Str} (h:er (.mk nd l)=.mk ⟨k,0,v,s,[]⟩ l'):nd.kind=k∧nd.n=v∧nd.s=s∧ers l=l':=by
 rw [er] at h
 injection h with h1 h2
 injection h1 with a b c d e
 exact ⟨a,c,d,h2⟩
theorem ers1 {l:List T} {x:T} (h:ers l=[x]):∃ t,l=[t]∧er t=x:=by
 match l,h with
 | [t],h=>rw [ers,ers] at h;injection h with h1;exact ⟨t,rfl,h1⟩
 | [],h=>rw [ers] at h;cases h
 | t::u::r,h=>rw [ers,ers] at h;injection h with h1 h2;cases h2
theorem ers2 {l:List T} {x y:T} (h:ers l=[x,y]):∃ t u,l=[t,u]∧er t=x∧er u=y:=by
 match l,h with
 | t::r,h =>
  rw [ers] at h;injection h with h1 h2
  obtain ⟨u,rfl,h3⟩:=ers1 h2
  exact ⟨t,u,rfl,h1,h3⟩
 | [],h=>rw [ers] at h;cases h
theorem ers3 {l:List T} {x y z:T} (h:ers l=[x,y,z]):∃ t u w,l=[t,u,w]∧er t=x∧er u=y∧er w=z:=by
 match l,h with
 | t::r,h =>
  rw [ers] at h;injection h with h1 h2
  obtain ⟨u,w,rfl,h3,h4⟩:=ers2 h2
  exact ⟨t,u,w,rfl,h1,h3,h4⟩
 | [],h=>rw [ers] at h;cases h
theorem tight_lv {a:E} (h:a.ok=true) {t:T} (ht:er t=a.tree):tightOf t.n.kind t.n.s=(a.lv:Int):=by
 obtain ⟨nd,l⟩:=t
 cases a with
 | bin s a b =>
  obtain ⟨h1,_,h2,_⟩:=er_inv ht
  simp only [E.ok,Bool.and_eq_true] at h
  have h9:=(Go.Xp.lvOf_spec h.1.1).1
  simp only [T.n,h1,h2,tightOf,if_pos,E.lv]
  unfold lvOf at h9 ⊢
  cases hf:levels.findIdx? (fun l=>l.contains s) with
  | none=>rw [hf] at h9;exact absurd h9 (by decide)
  | some i=>rfl
 | num n=>obtain ⟨h1,_⟩:=er_inv ht;simp only [T.n,h1,tightOf];rfl
 | name n=>obtain ⟨h1,_⟩:=er_inv ht;simp only [T.n,h1,tightOf];rfl
 | at_ s a=>obtain ⟨h1,_⟩:=er_inv ht;simp only [T.n,h1,tightOf];rfl
 | call s a=>obtain ⟨h1,_⟩:=er_inv ht;simp only [T.n,h1,tightOf];rfl
 | un s a=>obtain ⟨h1,_⟩:=er_inv ht;simp only [T.n,h1,tightOf];rfl
theorem tight_g {a:E} (h:a.ok=true) {t:T} (ht:er t=a.tree):GF Tryz.prog 91 [.agg (cT t)] [] (.v (ii (a.lv:Int))) []:=by
 have:=l08Tight_g t
 rw [tight_lv h ht] at this;exact this
theorem NumText_g (n:Int) (h:0≤n∧n≤2147483647):GF Tryz.prog 65 [.v (ii n)] [] (.v (sv (digs n.toNat))) []:=by
 have hw:=Wrap_g n
 have hw2:wrp32 n=n:=by unfold wrp32;rw [show n % 4294967296=n by omega,if_neg (by omega)]
 rw [hw2] at hw
 have hd:=l01Digits_g n.toNat (by omega)
 rw [Int.toNat_of_nonneg h.1] at hd
 have h':decide (n < 0)=false:=by simpa using h.1
 refine GC.enter Tryz.func65 Tryz.ntmps65 rfl (by simp only [gframe,grep,Nat.reduceSub];rfl) ?_
 refine w_grun ?_
 refine w_gcall [] (hw) ?_
 refine w_grun ?_
 refine w_gcall [] (hd) ?_
 refine w_grun ?_
 refine w_gret ?_
 exact ⟨rfl,rfl⟩
abbrev lim:Nat:=1000000000000
def LeastQ (a:E):Prop:=∀ (t:T) (k:Nat),a.ok=true→er t=a.tree→wt a.tree≤lim→¬ a.lv < k→GF Tryz.prog 40 [.agg (cT t),.v (ii (k:Int))] [] (.v (sv a.txt)) []
def LeastP (a:E):Prop:=∀ (t:T) (k:Nat),a.ok=true→er t=a.tree→wt a.tree≤lim→GF Tryz.prog 40 [.agg (cT t),.v (ii (k:Int))] [] (.v (sv (brt a.lv k a.txt))) []
theorem LeastQ.p {a:E} (C:LeastQ a):LeastP a:=by
 intro t k ho ht hb
 unfold brt
 by_cases h:a.lv < k
 ·rw [if_pos h]
  have h':decide ((a.lv:Int) < (k:Int))=true:=by simpa using h
  have hl:=(E.len a ho).1
  have h0:=C t 0 ho ht hb (by omega)
  have hbb:=hb
  unfold lim at hbb
  generalize a.txt=x at *
  refine GC.enter Tryz.func40 Tryz.ntmps40 rfl (by simp only [gframe,grep,Nat.reduceSub];rfl) ?_
  refine w_grun ?_
  refine w_gcall [] (tight_g ho ht) ?_
  refine w_grun ?_
  refine w_gcall [] (h0) ?_
  refine w_grun ?_
  refine w_gret ?_
  exact ⟨rfl,rfl⟩
 ·rw [if_neg h];exact C t k ho ht hb h
theorem least_num (n:Int):LeastQ (.num n):=by
 intro t k ho ht hb h
 have h':decide (((E.num n).lv:Int) < (k:Int))=false:=by simpa using h
 have hg:=tight_g ho ht
 obtain ⟨⟨kk,aa,vv,ss,ks⟩,l⟩:=t
 obtain ⟨h1,h2,h3,hl⟩:=er_inv ht
 simp only at h1 h2 h3
 subst h1 h2 h3
 simp only [E.ok,Bool.and_eq_true] at ho
 have hn:=NumText_g vv ⟨of_decide_eq_true ho.1,of_decide_eq_true ho.2⟩
 rw [E.txt]
 simp only [cT,T.n,T.kids] at hg ⊢
 refine GC.enter Tryz.func40 Tryz.ntmps40 rfl (by simp only [gframe,grep,Nat.reduceSub];rfl) ?_
 refine w_grun ?_
 refine w_gcall [] (hg) ?_
 refine w_grun ?_
 refine w_gcall [] (hn) ?_
 refine w_grun ?_
 refine w_gret ?_
 exact ⟨rfl,rfl⟩
theorem least_name (s:Str):LeastQ (.name s):=by
 intro t k ho ht hb h
 have h':decide (((E.name s).lv:Int) < (k:Int))=false:=by simpa using h
 have hg:=tight_g ho ht
 obtain ⟨⟨kk,aa,vv,ss,ks⟩,l⟩:=t
 obtain ⟨h1,h2,h3,hl⟩:=er_inv ht
 simp only at h1 h2 h3
 subst h1 h2 h3
 rw [E.txt]
 simp only [cT,T.n,T.kids] at hg ⊢
 refine GC.enter Tryz.func40 Tryz.ntmps40 rfl (by simp only [gframe,grep,Nat.reduceSub];rfl) ?_
 refine w_grun ?_
 refine w_gcall [] (hg) ?_
 refine w_grun ?_
 refine w_gret ?_
 exact ⟨rfl,rfl⟩
theorem least_at (s:Str) (a:E) (C:LeastP a):LeastQ (.at_ s a):=by
 intro t k ho ht hb h
 have h':decide (((E.at_ s a).lv:Int) < (k:Int))=false:=by simpa using h
 have hg:=tight_g ho ht
 obtain ⟨⟨kk,aa,vv,ss,ks⟩,l⟩:=t
 obtain ⟨h1,h2,h3,hl⟩:=er_inv ht
 simp only at h1 h2 h3
 subst h1 h2 h3
 obtain ⟨x,rfl,hx⟩:=ers1 hl
 simp only [E.ok,Bool.and_eq_true] at ho
 rw [E.tree,wt] at hb
 simp only [wts,lim] at hb
 have hc:=C x 0 ho.2 hx (by unfold lim;omega)
 unfold brt at hc
 rw [if_neg (by omega)] at hc
 have hle:=(E.len a ho.2).1
 have hr:(encTs [x])[0]?=some (cT x):=row_enc rfl
 rw [E.txt]
 generalize a.txt=y at *
 simp only [cT,T.n,T.kids] at hg ⊢
 refine GC.enter Tryz.func40 Tryz.ntmps40 rfl (by simp only [gframe,grep,Nat.reduceSub];rfl) ?_
 refine w_grun ?_
 refine w_gcall [] (hg) ?_
 refine w_grun ?_
 refine GW.draw (.q 0 (.q 1 (.q 2 (.q 3 (.q 4 (.q 5 (.q 6 (.q 7 (.a 8 (.q 9 (.q 10 (.q 11 .nil)))))))))))) (by kernel_rfl) (by kernel_rfl) ?_
 refine w_gorun ?_
 refine w_gocall [] (hc) ?_
 refine w_gorun ?_
 refine w_grun ?_
 refine w_gret ?_
 exact ⟨rfl,rfl⟩
theorem least_un (s:Str) (a:E) (C:LeastP a):LeastQ (.un s a):=by
 intro t k ho ht hb h
 have h':decide (((E.un s a).lv:Int) < (k:Int))=false:=by simpa using h
 have hg:=tight_g ho ht
 obtain ⟨⟨kk,aa,vv,ss,ks⟩,l⟩:=t
 obtain ⟨h1,h2,h3,hl⟩:=er_inv ht
 simp only at h1 h2 h3
 subst h1 h2 h3
 obtain ⟨x,rfl,hx⟩:=ers1 hl
 simp only [E.ok,Bool.and_eq_true] at ho
 rw [E.tree,wt] at hb
 simp only [wts,lim] at hb
 have hc:=C x 9 ho.2 hx (by unfold lim;omega)
 have hle:=(E.len a ho.2).1
 have hle2:=Go.Xp.brt_len a.lv 9 a.txt
 have hr:(encTs [x])[0]?=some (cT x):=row_enc rfl
 rw [E.txt]
 generalize brt a.lv 9 a.txt=y at *
 simp only [cT,T.n,T.kids] at hg ⊢
 refine GC.enter Tryz.func40 Tryz.ntmps40 rfl (by simp only [gframe,grep,Nat.reduceSub];rfl) ?_
 refine w_grun ?_
 refine w_gcall [] (hg) ?_
 refine w_grun ?_
 refine GW.draw (.q 0 (.q 1 (.q 2 (.q 3 (.q 4 (.q 5 (.q 6 (.q 7 (.a 8 (.q 9 (.a 10 (.q 11 (.q 12 .nil))))))))))))) (by kernel_rfl) (by kernel_rfl) ?_
 refine w_gorun ?_
 refine w_gocall [] (l08Levels_g) ?_
 refine w_gorun ?_
 refine w_gocall [] (hc) ?_
 refine w_gorun ?_
 refine w_grun ?_
 refine w_gret ?_
 exact ⟨rfl,rfl⟩
theorem least_bin (s:Str) (a b:E) (Ca:LeastP a) (Cb:LeastP b):LeastQ (.bin s a b):=by
 intro t k ho ht hb h
 have h':decide (((E.bin s a b).lv:Int) < (k:Int))=false:=by simpa using h
 have hg:=tight_g ho ht
 obtain ⟨⟨kk,aa,vv,ss,ks⟩,l⟩:=t
 obtain ⟨h1,h2,h3,hl⟩:=er_inv ht
 simp only at h1 h2 h3
 subst h1 h2 h3
 obtain ⟨x,y,rfl,hx,hy⟩:=ers2 hl
 simp only [E.ok,Bool.and_eq_true] at ho
 rw [E.tree,wt] at hb
 simp only [wts,lim] at hb
 have hca:=Ca x (lvOf ss) ho.1.2 hx (by unfold lim;omega)
 have hcb:=Cb y (lvOf ss+1) ho.2 hy (by unfold lim;omega)
 have hlv:=(Go.Xp.lvOf_spec ho.1.1).1
 have hle:=(E.len a ho.1.2).1
 have hle2:=Go.Xp.brt_len a.lv (lvOf ss) a.txt
 have hle3:=(E.len b ho.2).1
 have hle4:=Go.Xp.brt_len b.lv (lvOf ss+1) b.txt
 have hr:(encTs [x,y])[0]?=some (cT x):=row_enc rfl
 have hr2:(encTs [x,y])[1]?=some (cT y):=row_enc rfl
 rw [E.txt]
 simp only [E.lv] at hg h'
 generalize brt a.lv (lvOf ss) a.txt=u at *
 generalize brt b.lv (lvOf ss+1) b.txt=w at *
 simp only [cT,T.n,T.kids] at hg ⊢
 refine GC.enter Tryz.func40 Tryz.ntmps40 rfl (by simp only [gframe,grep,Nat.reduceSub];rfl) ?_
 refine w_grun ?_
 refine w_gcall [] (hg) ?_
 refine w_grun ?_
 refine w_gcall [] (hg) ?_
 refine w_grun ?_
 refine GW.draw (.q 0 (.q 1 (.q 2 (.q 3 (.q 4 (.q 7 (.q 8 (.q 9 (.q 12 (.q 13 (.q 14 (.q 15 (.q 16 (.q 17 (.a 5 (.q 6 (.q 10 (.q 11 (.a 18 (.q 19 (.q 20 .nil))))))))))))))))))))) (by kernel_rfl) (by kernel_rfl) ?_
 refine w_gorun ?_
 refine w_gocall [] (hca) ?_
 refine w_gorun ?_
 refine w_gocall [] (hcb) ?_
 refine w_gorun ?_
 refine w_grun ?_
 refine w_gret ?_
 exact ⟨rfl,rfl⟩
end Go.Xg
namespace Go.Xg
open Go.RowKit Go.Xw Go.Proofs
open Go.Xp (Tok Nd T signOf one levels Ar digs E S er ers wt wts brt lvOf joinC joinC_snoc joinC_take)
open Go.Sp
attribute [local irreducible] GW GL GO YG GC GA gthn ginb
def OutP (b:Bool) (a:E):Prop:=∀ t,er t=a.tree→GF Tryz.prog 138 [.agg (cT t),.v (.bool b)] [] (.v (sv (a.out b))) []
theorem ers_at:∀ {ts:List T} {es:List E} (h:ers ts=E.trees es),ts.length=es.length∧∀ (k:Nat) t a,ts[k]?=some t→es[k]?=some a→er t=a.tree
 | [],[],_=>⟨rfl,fun k t a h=>by simp at h⟩
 | [],a::l,h=>by rw [ers,E.trees] at h;cases h
 | t::r,[],h=>by rw [ers,E.trees] at h;cases h
 | t::r,a::l,h=>by
  rw [ers,E.trees] at h
  injection h with h1 h2
  obtain ⟨h3,h4⟩:=ers_at h2
  refine ⟨by simp [h3],fun k t' a' ht ha=>?_⟩
  cases k with
  | zero=>cases ht;cases ha;exact h1
  | succ k=>exact h4 k t' a' (by simpa using ht) (by simpa using ha)
theorem l08Join_g (b:Bool) (es:List E) (C:∀ a∈es,OutP b a) (ts:List T) (hts:ers ts=E.trees es) (hb:(joinC (es.map (E.out b))).length≤lim) (hn:es.length≤lim) :
  GF Tryz.prog 92 [.sl 6 (encTs ts),.v (.bool b)] [] (.v (sv (joinC (es.map (E.out b))))) []:=by
 obtain ⟨hlen,hat⟩:=ers_at hts
 unfold lim at hb hn
 refine GC.enter Tryz.func92 Tryz.ntmps92 rfl (by simp only [gframe,grep,Nat.reduceSub];rfl) ?_
 refine w_grun ?_
 refine GW.range (encTs ts).length (fun k fr Γ=>∃ y,fr=[.any,.v (.bool b),.any,.any,.any,.v (sv y),.any,.any,.sl 6 (encTs ts),.v (ii ((encTs ts).length:Int)),.v (ii (k:Nat)),.any,.any,.any,.any,.any,.any,.any,.any,.any,.any,.any,.any,.any,.any,.any]∧Γ=[]∧y=joinC ((es.map (E.out b)).take k)) ?_ (by rw [encTs_len];omega) ?_ ?_ ?_
 ·exact ⟨_,_,Wk.frm w_wkf,[],rfl,rfl,by simp [joinC]⟩
 ·rintro k _ _ ⟨y,rfl,rfl,_⟩;exact ⟨rfl,rfl,rfl⟩
 ·rintro k _ _ hk ⟨y,rfl,rfl,hy⟩
  have hk:k < es.length:=by rw [encTs_len,hlen] at hk;exact hk
  have hkt:k < ts.length:=by omega
  have hx:es[k]?=some es[k]:=by simp [hk]
  have ht:ts[k]?=some ts[k]:=by simp [hkt]
  have he:=hat k _ _ ht hx
  have hr:=row_enc ht
  have hc:=C _ (List.mem_of_getElem? hx) _ he
  have hjl:=joinC_take (es.map (E.out b)) (k+1)
  have hjl0:=joinC_take (es.map (E.out b)) k
  have htk:(es.map (E.out b)).take (k+1)=(es.map (E.out b)).take k++[es[k].out b]:=by
   rw [List.take_add_one,List.getElem?_map,hx];rfl
  rw [htk] at hjl
  generalize ts[k]=t at *
  generalize es[k]=a at *
  generalize a.out b=x at *
  by_cases h0:k=0
  ·subst h0
   have h0':decide ((0:Int) < ((0:Nat):Int))=false:=by decide
   have hj:joinC ((es.map (E.out b)).take 0++[x])=[]++x:=by simp [joinC]
   have hj0:joinC ((es.map (E.out b)).take 0)=[]:=by simp [joinC]
   rw [hj0] at hy
   subst hy
   rw [hj] at hjl
   have hjl:x.length≤(joinC (es.map (E.out b))).length:=by simpa using hjl
   refine w_grun ?_
   refine w_gcall [] (hc) ?_
   refine w_grun ?_
   exact ⟨rfl,rfl,_,_,(Wk.cut (n:=0) (Nat.le_of_ble_eq_true rfl) rfl).trans (Wk.frm w_wkf),_,rfl,rfl,by rw [htk,hj]⟩
  ·have h0':decide ((0:Int) < (k:Int))=true:=by simpa using by omega
   have hne:(es.map (E.out b)).take k≠[]:=by
    intro h
    rw [List.take_eq_nil_iff] at h
    rcases h with h | h
    ·exact h0 h
    ·rw [List.map_eq_nil_iff] at h;subst h;simp at hk
   have hj:=joinC_snoc hne x
   rw [hj] at hjl
   rw [←hy] at hjl hj hjl0
   simp only [List.length_append,List.length_cons,List.length_nil] at hjl
   refine w_grun ?_
   refine w_gcall [] (hc) ?_
   refine w_grun ?_
   exact ⟨rfl,rfl,_,_,(Wk.cut (n:=0) (Nat.le_of_ble_eq_true rfl) rfl).trans (Wk.frm w_wkf),_,rfl,rfl,by rw [htk,hj]⟩
 ·rintro _ _ ⟨y,rfl,rfl,hy⟩
  have:(es.map (E.out b)).take (encTs ts).length=es.map (E.out b):=List.take_of_length_le (by rw [encTs_len,hlen];simp)
  rw [this] at hy
  subst hy
  refine w_grun ?_
  refine w_gret ?_
  exact ⟨rfl,rfl⟩
theorem LeastP.out {a:E} (C:LeastP a) (ho:a.ok=true) (hb:wt a.tree≤lim):OutP true a:=by
 intro t ht
 have h0:=C t 0 ho ht hb
 unfold brt at h0
 rw [if_neg (by omega)] at h0
 show GF _ _ _ _ (.v (sv a.txt)) _
 refine GC.enter Tryz.func138 Tryz.ntmps138 rfl (by simp only [gframe,grep,Nat.reduceSub];rfl) ?_
 refine w_grun ?_
 refine w_gcall [] (h0) ?_
 refine w_grun ?_
 refine w_gret ?_
 exact ⟨rfl,rfl⟩
theorem wts_len:∀ l:List E,l.length≤wts (E.trees l)
 | []=>Nat.zero_le _
 | a::l=>by
  have:=wts_len l
  rw [E.trees,wts,List.length_cons]
  have:1≤wt a.tree:=by cases a <;> (rw [E.tree,wt];omega)
  omega
theorem wts_mem:∀ {l:List E} {a:E},a∈l→wt a.tree≤wts (E.trees l)
 | [],_,h=>by cases h
 | b::l,a,h=>by
  rw [E.trees,wts]
  rcases List.mem_cons.1 h with rfl | h
  ·omega
  ·have:=wts_mem h;omega
theorem oks_mem:∀ {l:List E} {a:E},E.oks l=true→a∈l→a.ok=true
 | [],_,_,h=>by cases h
 | b::l,a,ho,h=>by
  simp only [E.oks,Bool.and_eq_true] at ho
  rcases List.mem_cons.1 h with rfl | h
  ·exact ho.1
  ·exact oks_mem ho.2 h
theorem least_call (s:Str) (es:List E) (C:∀ a∈es,LeastP a):LeastQ (.call s es):=by
 intro t k ho ht hb h
 have h':decide (((E.call s es).lv:Int) < (k:Int))=false:=by simpa using h
 have hg:=tight_g ho ht
 obtain ⟨⟨kk,aa,vv,ss,ks⟩,l⟩:=t
 obtain ⟨h1,h2,h3,hl⟩:=er_inv ht
 simp only at h1 h2 h3
 subst h1 h2 h3
 simp only [E.ok,Bool.and_eq_true] at ho
 rw [E.tree,wt] at hb
 have hle:=(E.lens es ho.2).1
 have hn:=wts_len es
 have hmap:E.txts es=es.map (E.out true):=by rw [E.txts_map];rfl
 have hj:=l08Join_g true es (fun a ha=>(C a ha).out (oks_mem ho.2 ha) (by have:=wts_mem ha;omega)) l hl (by rw [←hmap];omega) (by omega)
 rw [←hmap] at hj
 unfold lim at hb
 simp only at hb
 rw [E.txt]
 generalize joinC (E.txts es)=y at *
 simp only [cT,T.n,T.kids] at hg ⊢
 refine GC.enter Tryz.func40 Tryz.ntmps40 rfl (by simp only [gframe,grep,Nat.reduceSub];rfl) ?_
 refine w_grun ?_
 refine w_gcall [] (hg) ?_
 refine w_grun ?_
 refine GW.draw (.q 0 (.q 1 (.q 2 (.q 3 (.q 4 (.q 5 (.a 6 (.q 7 (.q 8 (.q 9 .nil)))))))))) (by kernel_rfl) (by kernel_rfl) ?_
 refine w_gorun ?_
 refine w_gocall [] (hj) ?_
 refine w_gorun ?_
 refine w_grun ?_
 refine w_gret ?_
 exact ⟨rfl,rfl⟩
mutual
theorem leastP:∀ a:E,LeastP a
 | .num n=>(least_num n).p
 | .name s=>(least_name s).p
 | .at_ s a=>(least_at s a (leastP a)).p
 | .call s l=>(least_call s l (leastPs l)).p
 | .un s a=>(least_un s a (leastP a)).p
 | .bin s a b=>(least_bin s a b (leastP a) (leastP b)).p
theorem leastPs:∀ l:List E,∀ a∈l,LeastP a
 | []=>fun a h=>by cases h
 | b::l=>fun a h=>by
  rcases List.mem_cons.1 h with h | h
  ·rw [h];exact leastP b
  ·exact leastPs l a h
end
def FullP (a:E):Prop:=∀ (t:T),a.ok=true→er t=a.tree→wt a.tree≤lim→GF Tryz.prog 183 [.agg (cT t)] [] (.v (sv a.full)) []
theorem FullP.out {a:E} (C:FullP a) (ho:a.ok=true) (hb:wt a.tree≤lim):OutP false a:=by
 intro t ht
 have h0:=C t ho ht hb
 show GF _ _ _ _ (.v (sv a.full)) _
 refine GC.enter Tryz.func138 Tryz.ntmps138 rfl (by simp only [gframe,grep,Nat.reduceSub];rfl) ?_
 refine w_grun ?_
 refine w_gcall [] (h0) ?_
 refine w_grun ?_
 refine w_gret ?_
 exact ⟨rfl,rfl⟩
theorem full_num (n:Int):FullP (.num n):=by
 intro t ho ht hb
 obtain ⟨⟨kk,aa,vv,ss,ks⟩,l⟩:=t
 obtain ⟨h1,h2,h3,hl⟩:=er_inv ht
 simp only at h1 h2 h3
 subst h1 h2 h3
 simp only [E.ok,Bool.and_eq_true] at ho
 have hn:=NumText_g vv ⟨of_decide_eq_true ho.1,of_decide_eq_true ho.2⟩
 rw [E.full]
 simp only [cT,T.n,T.kids]
 refine GC.enter Tryz.func183 Tryz.ntmps183 rfl (by simp only [gframe,grep,Nat.reduceSub];rfl) ?_
 refine w_grun ?_
 refine w_gcall [] (hn) ?_
 refine w_grun ?_
 refine w_gret ?_
 exact ⟨rfl,rfl⟩
theorem full_name (s:Str):FullP (.name s):=by
 intro t ho ht hb
 obtain ⟨⟨kk,aa,vv,ss,ks⟩,l⟩:=t
 obtain ⟨h1,h2,h3,hl⟩:=er_inv ht
 simp only at h1 h2 h3
 subst h1 h2 h3
 rw [E.full]
 simp only [cT,T.n,T.kids]
 refine GC.enter Tryz.func183 Tryz.ntmps183 rfl (by simp only [gframe,grep,Nat.reduceSub];rfl) ?_
 refine w_grun ?_
 refine w_gret ?_
 exact ⟨rfl,rfl⟩
theorem full_at (s:Str) (a:E) (C:FullP a):FullP (.at_ s a):=by
 intro t ho ht hb
 obtain ⟨⟨kk,aa,vv,ss,ks⟩,l⟩:=t
 obtain ⟨h1,h2,h3,hl⟩:=er_inv ht
 simp only at h1 h2 h3
 subst h1 h2 h3
 obtain ⟨x,rfl,hx⟩:=ers1 hl
 simp only [E.ok,Bool.and_eq_true] at ho
 rw [E.tree,wt] at hb
 simp only [wts,lim] at hb
 have hc:=C x ho.2 hx (by unfold lim;omega)
 have hle:=(E.len a ho.2).2
 have hr:(encTs [x])[0]?=some (cT x):=row_enc rfl
 rw [E.full]
 generalize a.full=y at *
 simp only [cT,T.n,T.kids] at ⊢
 refine GC.enter Tryz.func183 Tryz.ntmps183 rfl (by simp only [gframe,grep,Nat.reduceSub];rfl) ?_
 refine w_grun ?_
 refine GW.draw (.q 0 (.q 1 (.q 2 (.q 3 (.q 4 (.q 5 (.q 6 (.q 7 (.a 8 (.q 9 (.q 10 (.q 11 .nil)))))))))))) (by kernel_rfl) (by kernel_rfl) ?_
 refine w_gorun ?_
 refine w_gocall [] (hc) ?_
 refine w_gorun ?_
 refine w_grun ?_
 refine w_gret ?_
 exact ⟨rfl,rfl⟩
theorem full_call (s:Str) (es:List E) (C:∀ a∈es,FullP a):FullP (.call s es):=by
 intro t ho ht hb
 obtain ⟨⟨kk,aa,vv,ss,ks⟩,l⟩:=t
 obtain ⟨h1,h2,h3,hl⟩:=er_inv ht
 simp only at h1 h2 h3
 subst h1 h2 h3
 simp only [E.ok,Bool.and_eq_true] at ho
 rw [E.tree,wt] at hb
 have hle:=(E.lens es ho.2).2
 have hn:=wts_len es
 have hmap:E.fulls es=es.map (E.out false):=by rw [E.fulls_map];rfl
 have hj:=l08Join_g false es (fun a ha=>(C a ha).out (oks_mem ho.2 ha) (by have:=wts_mem ha;omega)) l hl (by rw [←hmap];omega) (by omega)
 rw [←hmap] at hj
 unfold lim at hb
 simp only at hb
 rw [E.full]
 generalize joinC (E.fulls es)=y at *
 simp only [cT,T.n,T.kids] at ⊢
 refine GC.enter Tryz.func183 Tryz.ntmps183 rfl (by simp only [gframe,grep,Nat.reduceSub];rfl) ?_
 refine w_grun ?_
 refine GW.draw (.q 0 (.q 1 (.q 2 (.q 3 (.q 4 (.q 5 (.a 6 (.q 7 (.q 8 (.q 9 .nil)))))))))) (by kernel_rfl) (by kernel_rfl) ?_
 refine w_gorun ?_
 refine w_gocall [] (hj) ?_
 refine w_gorun ?_
 refine w_grun ?_
 refine w_gret ?_
 exact ⟨rfl,rfl⟩
theorem full_un (s:Str) (a:E) (C:FullP a):FullP (.un s a):=by
 intro t ho ht hb
 obtain ⟨⟨kk,aa,vv,ss,ks⟩,l⟩:=t
 obtain ⟨h1,h2,h3,hl⟩:=er_inv ht
 simp only at h1 h2 h3
 subst h1 h2 h3
 obtain ⟨x,rfl,hx⟩:=ers1 hl
 simp only [E.ok,Bool.and_eq_true] at ho
 rw [E.tree,wt] at hb
 simp only [wts,lim] at hb
 have hc:=C x ho.2 hx (by unfold lim;omega)
 have hle:=(E.len a ho.2).2
 have hr:(encTs [x])[0]?=some (cT x):=row_enc rfl
 rw [E.full]
 generalize a.full=y at *
 simp only [cT,T.n,T.kids] at ⊢
 refine GC.enter Tryz.func183 Tryz.ntmps183 rfl (by simp only [gframe,grep,Nat.reduceSub];rfl) ?_
 refine w_grun ?_
 refine GW.draw (.q 0 (.q 1 (.q 2 (.q 3 (.q 4 (.q 5 (.q 6 (.q 7 (.a 8 (.q 9 (.q 10 (.q 11 .nil)))))))))))) (by kernel_rfl) (by kernel_rfl) ?_
 refine w_gorun ?_
 refine w_gocall [] (hc) ?_
 refine w_gorun ?_
 refine w_grun ?_
 refine w_gret ?_
 exact ⟨rfl,rfl⟩
theorem full_bin (s:Str) (a b:E) (Ca:FullP a) (Cb:FullP b):FullP (.bin s a b):=by
 intro t ho ht hb
 obtain ⟨⟨kk,aa,vv,ss,ks⟩,l⟩:=t
 obtain ⟨h1,h2,h3,hl⟩:=er_inv ht
 simp only at h1 h2 h3
 subst h1 h2 h3
 obtain ⟨x,y,rfl,hx,hy⟩:=ers2 hl
 simp only [E.ok,Bool.and_eq_true] at ho
 rw [E.tree,wt] at hb
 simp only [wts,lim] at hb
 have hca:=Ca x ho.1.2 hx (by unfold lim;omega)
 have hcb:=Cb y ho.2 hy (by unfold lim;omega)
 have hle:=(E.len a ho.1.2).2
 have hle3:=(E.len b ho.2).2
 have hr:(encTs [x,y])[0]?=some (cT x):=row_enc rfl
 have hr2:(encTs [x,y])[1]?=some (cT y):=row_enc rfl
 rw [E.full]
 generalize a.full=u at *
 generalize b.full=w at *
 simp only [cT,T.n,T.kids] at ⊢
 refine GC.enter Tryz.func183 Tryz.ntmps183 rfl (by simp only [gframe,grep,Nat.reduceSub];rfl) ?_
 refine w_grun ?_
 refine GW.draw (.q 0 (.q 1 (.q 2 (.q 3 (.q 7 (.q 8 (.q 9 (.q 12 (.q 13 (.q 14 (.q 15 (.a 4 (.q 5 (.q 6 (.q 10 (.q 11 (.a 16 (.q 17 (.q 18 (.q 19 .nil)))))))))))))))))))) (by kernel_rfl) (by kernel_rfl) ?_
 refine w_gorun ?_
 refine w_gocall [] (hca) ?_
 refine w_gorun ?_
 refine w_gocall [] (hcb) ?_
 refine w_gorun ?_
 refine w_grun ?_
 refine w_gret ?_
 exact ⟨rfl,rfl⟩
mutual
theorem fullP:∀ a:E,FullP a
 | .num n=>full_num n
 | .name s=>full_name s
 | .at_ s a=>full_at s a (fullP a)
 | .call s l=>full_call s l (fullPs l)
 | .un s a=>full_un s a (fullP a)
 | .bin s a b=>full_bin s a b (fullP a) (fullP b)
theorem fullPs:∀ l:List E,∀ a∈l,FullP a
 | []=>fun a h=>by cases h
 | b::l=>fun a h=>by
  rcases List.mem_cons.1 h with h | h
  ·rw [h];exact fullP b
  ·exact fullPs l a h
end
theorem l08E_g (b:Bool) {a:E} (ho:a.ok=true) (hb:wt a.tree≤lim):OutP b a:=by
 cases b with
 | true=>exact (leastP a).out ho hb
 | false=>exact (fullP a).out ho hb
theorem out_len (b:Bool) (a:E) (ho:a.ok=true):(a.out b).length+4≤wt a.tree:=by
 have:=E.len a ho
 cases b with
 | true=>exact this.1
 | false=>exact this.2
end Go.Xg
namespace Go.Xg
open Go.RowKit Go.Xw Go.Proofs
open Go.Xp (Tok Nd T signOf one levels Ar digs E S er ers wt wts blkTree blkTxt)
open Go.Sp
attribute [local irreducible] GW GL GO YG GC GA gthn ginb
theorem txts_ge (x:E→Go.Xp.Str):∀ (l:List S) (acc:Go.Xp.Str),acc.length≤(S.txts x acc l).length
 | [],acc=>by rw [S.txts];omega
 | a::l,acc=>by
  rw [S.txts]
  have:=txts_ge x l (acc++a.txt x++[32])
  simp only [List.length_append,List.length_cons,List.length_nil] at this;omega
def WriteS (b:Bool) (s:S):Prop:=∀ t,s.ok=true→er t=s.tree→wt s.tree≤lim→GF Tryz.prog 134 [.agg (cT t),.v (.bool b)] [] (.v (sv (s.txt (E.out b)))) []
def WriteB (b:Bool) (l:List S):Prop:=∀ t,S.oks l=true→er t=blkTree l→wt (blkTree l)≤lim→GF Tryz.prog 134 [.agg (cT t),.v (.bool b)] [] (.v (sv (blkTxt (E.out b) l))) []
theorem sers_at:∀ {ts:List T} {es:List S} (h:ers ts=S.trees es),ts.length=es.length∧∀ (k:Nat) t a,ts[k]?=some t→es[k]?=some a→er t=a.tree
 | [],[],_=>⟨rfl,fun k t a h=>by simp at h⟩
 | [],a::l,h=>by rw [ers,S.trees] at h;cases h
 | t::r,[],h=>by rw [ers,S.trees] at h;cases h
 | t::r,a::l,h=>by
  rw [ers,S.trees] at h
  injection h with h1 h2
  obtain ⟨h3,h4⟩:=sers_at h2
  refine ⟨by simp [h3],fun k t' a' ht ha=>?_⟩
  cases k with
  | zero=>cases ht;cases ha;exact h1
  | succ k=>exact h4 k t' a' (by simpa using ht) (by simpa using ha)
theorem swts_mem:∀ {l:List S} {a:S},a∈l→wt a.tree≤wts (S.trees l)
 | [],_,h=>by cases h
 | b::l,a,h=>by
  rw [S.trees,wts]
  rcases List.mem_cons.1 h with rfl | h
  ·omega
  ·have:=swts_mem h;omega
theorem swts_len:∀ l:List S,l.length≤wts (S.trees l)
 | []=>Nat.zero_le _
 | a::l=>by
  have:=swts_len l
  rw [S.trees,wts,List.length_cons]
  have:1≤wt a.tree:=by cases a <;> (rw [S.tree,wt];omega)
  omega
theorem soks_mem:∀ {l:List S} {a:S},S.oks l=true→a∈l→a.ok=true
 | [],_,_,h=>by cases h
 | b::l,a,ho,h=>by
  simp only [S.oks,Bool.and_eq_true] at ho
  rcases List.mem_cons.1 h with rfl | h
  ·exact ho.1
  ·exact soks_mem ho.2 h
theorem write_var (b:Bool) (s:Go.Xp.Str) (a:E):WriteS b (.var s a):=by
 intro t ho ht hb
 obtain ⟨⟨kk,aa,vv,ss,ks⟩,l⟩:=t
 obtain ⟨h1,h2,h3,hl⟩:=er_inv ht
 simp only at h1 h2 h3
 subst h1 h2 h3
 obtain ⟨x0,rfl,hx0⟩:=ers1 hl
 simp only [S.ok,Bool.and_eq_true] at ho
 rw [S.tree,wt] at hb
 simp only [wts,lim] at hb
 have hc0:=l08E_g b (a:=a) ho.2 (by unfold lim;omega) x0 hx0
 have hl0:=out_len b a ho.2
 have hr0:(encTs [x0])[0]?=some (cT x0):=row_enc rfl
 rw [S.txt]
 generalize a.out b=y0 at *
 simp only [cT,T.n,T.kids]
 refine GC.enter Tryz.func134 Tryz.ntmps134 rfl (by simp only [gframe,grep,Nat.reduceSub];rfl) ?_
 refine w_grun ?_
 refine GW.draw (.q 0 (.q 1 (.q 2 (.q 3 (.q 4 (.q 5 (.q 6 (.q 7 (.q 8 (.q 9 (.a 10 (.q 11 (.q 12 (.q 13 .nil)))))))))))))) (by kernel_rfl) (by kernel_rfl) ?_
 refine w_gorun ?_
 refine w_gocall [] (hc0) ?_
 refine w_gorun ?_
 refine w_grun ?_
 refine w_gret ?_
 exact ⟨rfl,rfl⟩
theorem write_set (b:Bool) (s:Go.Xp.Str) (a:E):WriteS b (.set s a):=by
 intro t ho ht hb
 obtain ⟨⟨kk,aa,vv,ss,ks⟩,l⟩:=t
 obtain ⟨h1,h2,h3,hl⟩:=er_inv ht
 simp only at h1 h2 h3
 subst h1 h2 h3
 obtain ⟨x0,rfl,hx0⟩:=ers1 hl
 simp only [S.ok,Bool.and_eq_true] at ho
 rw [S.tree,wt] at hb
 simp only [wts,lim] at hb
 have hc0:=l08E_g b (a:=a) ho.2 (by unfold lim;omega) x0 hx0
 have hl0:=out_len b a ho.2
 have hr0:(encTs [x0])[0]?=some (cT x0):=row_enc rfl
 rw [S.txt]
 generalize a.out b=y0 at *
 simp only [cT,T.n,T.kids]
 refine GC.enter Tryz.func134 Tryz.ntmps134 rfl (by simp only [gframe,grep,Nat.reduceSub];rfl) ?_
 refine w_grun ?_
 refine GW.draw (.q 0 (.q 1 (.q 2 (.q 3 (.q 4 (.q 5 (.q 6 (.q 7 (.q 8 (.a 9 (.q 10 (.q 11 (.q 12 .nil))))))))))))) (by kernel_rfl) (by kernel_rfl) ?_
 refine w_gorun ?_
 refine w_gocall [] (hc0) ?_
 refine w_gorun ?_
 refine w_grun ?_
 refine w_gret ?_
 exact ⟨rfl,rfl⟩
theorem write_put (b:Bool) (s:Go.Xp.Str) (a:E) (c:E):WriteS b (.put s a c):=by
 intro t ho ht hb
 obtain ⟨⟨kk,aa,vv,ss,ks⟩,l⟩:=t
 obtain ⟨h1,h2,h3,hl⟩:=er_inv ht
 simp only at h1 h2 h3
 subst h1 h2 h3
 obtain ⟨x0,x1,rfl,hx0,hx1⟩:=ers2 hl
 simp only [S.ok,Bool.and_eq_true] at ho
 rw [S.tree,wt] at hb
 simp only [wts,lim] at hb
 have hc0:=l08E_g b (a:=a) ho.2.1 (by unfold lim;omega) x0 hx0
 have hl0:=out_len b a ho.2.1
 have hr0:(encTs [x0,x1])[0]?=some (cT x0):=row_enc rfl
 have hc1:=l08E_g b (a:=c) ho.2.2 (by unfold lim;omega) x1 hx1
 have hl1:=out_len b c ho.2.2
 have hr1:(encTs [x0,x1])[1]?=some (cT x1):=row_enc rfl
 rw [S.txt]
 generalize a.out b=y0 at *
 generalize c.out b=y1 at *
 simp only [cT,T.n,T.kids]
 refine GC.enter Tryz.func134 Tryz.ntmps134 rfl (by simp only [gframe,grep,Nat.reduceSub];rfl) ?_
 refine w_grun ?_
 refine GW.draw (.q 0 (.q 1 (.q 2 (.q 3 (.q 4 (.q 5 (.q 6 (.q 7 (.q 8 (.q 12 (.q 13 (.q 14 (.q 15 (.q 16 (.a 9 (.q 10 (.q 11 (.a 17 (.q 18 (.q 19 (.q 20 .nil))))))))))))))))))))) (by kernel_rfl) (by kernel_rfl) ?_
 refine w_gorun ?_
 refine w_gocall [] (hc0) ?_
 refine w_gorun ?_
 refine w_gocall [] (hc1) ?_
 refine w_gorun ?_
 refine w_grun ?_
 refine w_gret ?_
 exact ⟨rfl,rfl⟩
theorem write_if1 (b:Bool) (c:E) (p:List S) (Cp:WriteB b p):WriteS b (.if1 c p):=by
 intro t ho ht hb
 obtain ⟨⟨kk,aa,vv,ss,ks⟩,l⟩:=t
 obtain ⟨h1,h2,h3,hl⟩:=er_inv ht
 simp only at h1 h2 h3
 subst h1 h2 h3
 obtain ⟨x0,x1,rfl,hx0,hx1⟩:=ers2 hl
 simp only [S.ok,Bool.and_eq_true] at ho
 rw [S.tree,wt] at hb
 simp only [wts,lim] at hb
 have hc0:=l08E_g b (a:=c) ho.1 (by unfold lim;omega) x0 hx0
 have hl0:=out_len b c ho.1
 have hr0:(encTs [x0,x1])[0]?=some (cT x0):=row_enc rfl
 have hc1:=Cp x1 ho.2 hx1 (by unfold lim blkTree;omega)
 have hl1:=Go.Xp.blk_len (E.out b) (out_len b) ho.2
 rw [blkTree] at hl1
 have hr1:(encTs [x0,x1])[1]?=some (cT x1):=row_enc rfl
 rw [S.txt]
 generalize c.out b=y0 at *
 change GF _ _ _ _ (.v (sv _)) _ at hc1
 unfold blkTxt at hc1 hl1
 generalize S.txts (E.out b) [123,32] p++[125]=y1 at *
 simp only [cT,T.n,T.kids]
 refine GC.enter Tryz.func134 Tryz.ntmps134 rfl (by simp only [gframe,grep,Nat.reduceSub];rfl) ?_
 refine w_grun ?_
 refine GW.draw (.q 0 (.q 1 (.q 2 (.q 3 (.q 4 (.q 8 (.q 9 (.q 10 (.q 11 (.q 12 (.a 5 (.q 6 (.q 7 (.a 13 (.q 14 (.q 15 .nil)))))))))))))))) (by kernel_rfl) (by kernel_rfl) ?_
 refine w_gorun ?_
 refine w_gocall [] (hc0) ?_
 refine w_gorun ?_
 refine w_gocall [] (hc1) ?_
 refine w_gorun ?_
 refine w_grun ?_
 refine w_gret ?_
 exact ⟨rfl,rfl⟩
theorem write_if2 (b:Bool) (c:E) (p:List S) (q:List S) (Cp:WriteB b p) (Cq:WriteB b q):WriteS b (.if2 c p q):=by
 intro t ho ht hb
 obtain ⟨⟨kk,aa,vv,ss,ks⟩,l⟩:=t
 obtain ⟨h1,h2,h3,hl⟩:=er_inv ht
 simp only at h1 h2 h3
 subst h1 h2 h3
 obtain ⟨x0,x1,x2,rfl,hx0,hx1,hx2⟩:=ers3 hl
 simp only [S.ok,Bool.and_eq_true] at ho
 rw [S.tree,wt] at hb
 simp only [wts,lim] at hb
 have hc0:=l08E_g b (a:=c) ho.1 (by unfold lim;omega) x0 hx0
 have hl0:=out_len b c ho.1
 have hr0:(encTs [x0,x1,x2])[0]?=some (cT x0):=row_enc rfl
 have hc1:=Cp x1 ho.2.1 hx1 (by unfold lim blkTree;omega)
 have hl1:=Go.Xp.blk_len (E.out b) (out_len b) ho.2.1
 rw [blkTree] at hl1
 have hr1:(encTs [x0,x1,x2])[1]?=some (cT x1):=row_enc rfl
 have hc2:=Cq x2 ho.2.2 hx2 (by unfold lim blkTree;omega)
 have hl2:=Go.Xp.blk_len (E.out b) (out_len b) ho.2.2
 rw [blkTree] at hl2
 have hr2:(encTs [x0,x1,x2])[2]?=some (cT x2):=row_enc rfl
 rw [S.txt]
 generalize c.out b=y0 at *
 change GF _ _ _ _ (.v (sv _)) _ at hc1
 unfold blkTxt at hc1 hl1
 generalize S.txts (E.out b) [123,32] p++[125]=y1 at *
 change GF _ _ _ _ (.v (sv _)) _ at hc2
 unfold blkTxt at hc2 hl2
 generalize S.txts (E.out b) [123,32] q++[125]=y2 at *
 simp only [cT,T.n,T.kids]
 refine GC.enter Tryz.func134 Tryz.ntmps134 rfl (by simp only [gframe,grep,Nat.reduceSub];rfl) ?_
 refine w_grun ?_
 refine GW.draw (.q 0 (.q 1 (.q 2 (.q 3 (.q 4 (.q 8 (.q 9 (.q 10 (.q 11 (.q 12 (.a 5 (.q 6 (.q 7 (.a 13 (.q 14 (.q 15 .nil)))))))))))))))) (by kernel_rfl) (by kernel_rfl) ?_
 refine w_gorun ?_
 refine w_gocall [] (hc0) ?_
 refine w_gorun ?_
 refine w_gocall [] (hc1) ?_
 refine w_gorun ?_
 refine w_grun ?_
 refine w_gcall [] (hc2) ?_
 refine w_grun ?_
 refine w_gret ?_
 exact ⟨rfl,rfl⟩
theorem write_while (b:Bool) (c:E) (p:List S) (Cp:WriteB b p):WriteS b (.while_ c p):=by
 intro t ho ht hb
 obtain ⟨⟨kk,aa,vv,ss,ks⟩,l⟩:=t
 obtain ⟨h1,h2,h3,hl⟩:=er_inv ht
 simp only at h1 h2 h3
 subst h1 h2 h3
 obtain ⟨x0,x1,rfl,hx0,hx1⟩:=ers2 hl
 simp only [S.ok,Bool.and_eq_true] at ho
 rw [S.tree,wt] at hb
 simp only [wts,lim] at hb
 have hc0:=l08E_g b (a:=c) ho.1 (by unfold lim;omega) x0 hx0
 have hl0:=out_len b c ho.1
 have hr0:(encTs [x0,x1])[0]?=some (cT x0):=row_enc rfl
 have hc1:=Cp x1 ho.2 hx1 (by unfold lim blkTree;omega)
 have hl1:=Go.Xp.blk_len (E.out b) (out_len b) ho.2
 rw [blkTree] at hl1
 have hr1:(encTs [x0,x1])[1]?=some (cT x1):=row_enc rfl
 rw [S.txt]
 generalize c.out b=y0 at *
 change GF _ _ _ _ (.v (sv _)) _ at hc1
 unfold blkTxt at hc1 hl1
 generalize S.txts (E.out b) [123,32] p++[125]=y1 at *
 simp only [cT,T.n,T.kids]
 refine GC.enter Tryz.func134 Tryz.ntmps134 rfl (by simp only [gframe,grep,Nat.reduceSub];rfl) ?_
 refine w_grun ?_
 refine GW.draw (.q 0 (.q 1 (.q 2 (.q 3 (.q 4 (.q 8 (.q 9 (.q 10 (.q 11 (.q 12 (.a 5 (.q 6 (.q 7 (.a 13 (.q 14 (.q 15 .nil)))))))))))))))) (by kernel_rfl) (by kernel_rfl) ?_
 refine w_gorun ?_
 refine w_gocall [] (hc0) ?_
 refine w_gorun ?_
 refine w_gocall [] (hc1) ?_
 refine w_gorun ?_
 refine w_grun ?_
 refine w_gret ?_
 exact ⟨rfl,rfl⟩
theorem write_ret (b:Bool) (a:E):WriteS b (.ret a):=by
 intro t ho ht hb
 obtain ⟨⟨kk,aa,vv,ss,ks⟩,l⟩:=t
 obtain ⟨h1,h2,h3,hl⟩:=er_inv ht
 simp only at h1 h2 h3
 subst h1 h2 h3
 obtain ⟨x0,rfl,hx0⟩:=ers1 hl
 simp only [S.ok] at ho
 rw [S.tree,wt] at hb
 simp only [wts,lim] at hb
 have hc0:=l08E_g b (a:=a) ho (by unfold lim;omega) x0 hx0
 have hl0:=out_len b a ho
 have hr0:(encTs [x0])[0]?=some (cT x0):=row_enc rfl
 rw [S.txt]
 generalize a.out b=y0 at *
 simp only [cT,T.n,T.kids]
 refine GC.enter Tryz.func134 Tryz.ntmps134 rfl (by simp only [gframe,grep,Nat.reduceSub];rfl) ?_
 refine w_grun ?_
 refine w_gcall [] (hc0) ?_
 refine w_grun ?_
 refine w_gret ?_
 exact ⟨rfl,rfl⟩
theorem write_do (b:Bool) (a:E):WriteS b (.do_ a):=by
 intro t ho ht hb
 obtain ⟨⟨kk,aa,vv,ss,ks⟩,l⟩:=t
 obtain ⟨h1,h2,h3,hl⟩:=er_inv ht
 simp only at h1 h2 h3
 subst h1 h2 h3
 obtain ⟨x0,rfl,hx0⟩:=ers1 hl
 simp only [S.ok] at ho
 rw [S.tree,wt] at hb
 simp only [wts,lim] at hb
 have hc0:=l08E_g b (a:=a) ho (by unfold lim;omega) x0 hx0
 have hl0:=out_len b a ho
 have hr0:(encTs [x0])[0]?=some (cT x0):=row_enc rfl
 rw [S.txt]
 generalize a.out b=y0 at *
 simp only [cT,T.n,T.kids]
 refine GC.enter Tryz.func134 Tryz.ntmps134 rfl (by simp only [gframe,grep,Nat.reduceSub];rfl) ?_
 refine w_grun ?_
 refine w_gcall [] (hc0) ?_
 refine w_grun ?_
 refine w_gret ?_
 exact ⟨rfl,rfl⟩
theorem write_blk (b:Bool) (es:List S) (C:∀ a∈es,WriteS b a):WriteB b es:=by
 intro t ho ht hb
 obtain ⟨⟨kk,aa,vv,ss,ks⟩,l⟩:=t
 obtain ⟨h1,h2,h3,hl⟩:=er_inv ht
 simp only at h1 h2 h3
 subst h1 h2 h3
 obtain ⟨hlen,hat⟩:=sers_at hl
 have hbl:=Go.Xp.blk_len (E.out b) (out_len b) ho
 rw [blkTree,wt] at hb
 rw [blkTree,wt] at hbl
 have hn:=swts_len es
 unfold blkTxt at hbl ⊢
 unfold lim at hb
 simp only [List.length_append,List.length_cons,List.length_nil] at hb hbl
 simp only [cT,T.n,T.kids]
 refine GC.enter Tryz.func134 Tryz.ntmps134 rfl (by simp only [gframe,grep,Nat.reduceSub];rfl) ?_
 refine w_grun ?_
 refine GW.range (encTs l).length (fun k fr Γ=>∃ y,fr=[.any,.v (.bool b),.loc 0 0,.any,.any,.any,.v (sv y),.any,.any,.any,.any,.any,.any,.any,.any,.any,.any,.any,.any,.any,.any,.any,.any,.any,.any,.any,.any,.any,.any,.any,.any,.any,.any,.any,.any,.any,.any,.any,.any,.any,.any,.any,.any,.any,.any,.any,.any,.any,.any,.any,.any,.any,.any,.any,.any,.any,.any,.any,.any,.any,.any,.any,.any,.any,.any,.any,.any,.any,.any,.any,.any,.any,.any,.any,.any,.any,.any,.any,.any,.any,.any,.any,.any,.any,.any,.any,.any,.any,.any,.any,.any,.any,.any,.any,.any,.any,.any,.any,.any,.any,.any,.any,.any,.any,.any,.any,.any,.any,.any,.any,.any,.any,.any,.any,.any,.any,.any,.any,.any,.any,.any,.any,.any,.any,.any,.any,.any,.any,.any,.any,.any,.sl 6 (encTs l),.v (ii ((encTs l).length:Int)),.v (ii (k:Nat)),.any,.any,.any,.any,.any,.any,.any,.any,.any,.any,.any,.any]∧Γ=[.box 70 [.v (ii 14),.v (ii aa),.v (ii 0),.v (sv []),ints ks,.sl 6 (encTs l)]]∧S.txts (E.out b) y (es.drop k)=S.txts (E.out b) [123,32] es) ?_ (by rw [encTs_len];omega) ?_ ?_ ?_
 ·exact ⟨_,_,Wk.frm w_wkf,_,rfl,rfl,rfl⟩
 ·rintro k _ _ ⟨y,rfl,rfl,_⟩;exact ⟨rfl,rfl,rfl⟩
 ·rintro k _ _ hk ⟨y,rfl,rfl,hy⟩
  have hk:k < es.length:=by rw [encTs_len,hlen] at hk;exact hk
  have hkt:k < l.length:=by omega
  have hx:es[k]?=some es[k]:=by simp [hk]
  have htk:l[k]?=some l[k]:=by simp [hkt]
  have hr:=row_enc htk
  rw [List.drop_eq_getElem_cons hk,S.txts] at hy
  have hm:=List.mem_of_getElem? hx
  have hc:=C _ hm _ (soks_mem ho hm) (hat k _ _ htk hx) (by have:=swts_mem hm;unfold lim;omega)
  generalize l[k]=t at *
  generalize hgx:es[k].txt (E.out b)=x at *
  have hge:=txts_ge (E.out b) (es.drop (k+1)) (y++x++[32])
  rw [hy] at hge
  simp only [List.length_append,List.length_cons,List.length_nil] at hge
  refine w_grun ?_
  refine w_gcall [] (hc) ?_
  refine w_grun ?_
  exact ⟨rfl,rfl,_,_,(Wk.cut (n:=1) (Nat.le_of_ble_eq_true rfl) rfl).trans (Wk.frm w_wkf),_,rfl,rfl,hy⟩
 ·rintro _ _ ⟨y,rfl,rfl,hy⟩
  rw [List.drop_of_length_le (by rw [encTs_len,hlen];exact Nat.le_refl _),S.txts] at hy
  subst hy
  refine w_grun ?_
  refine w_gret ?_
  exact ⟨rfl,rfl⟩
mutual
theorem writeS (b:Bool):∀ s:S,WriteS b s
 | .set s a=>write_set b s a
 | .put s a c=>write_put b s a c
 | .if1 c p=>write_if1 b c p (write_blk b p (writeSs b p))
 | .if2 c p q=>write_if2 b c p q (write_blk b p (writeSs b p)) (write_blk b q (writeSs b q))
 | .while_ c p=>write_while b c p (write_blk b p (writeSs b p))
 | .ret a=>write_ret b a
 | .do_ a=>write_do b a
 | .var s a=>write_var b s a
theorem writeSs (b:Bool):∀ l:List S,∀ a∈l,WriteS b a
 | []=>fun a h=>by cases h
 | c::l=>fun a h=>by
  rcases List.mem_cons.1 h with h | h
  ·rw [h];exact writeS b c
  ·exact writeSs b l a h
end
theorem writeB (b:Bool) (l:List S):WriteB b l:=write_blk b l (writeSs b l)
end Go.Xg
namespace Go.Xg
open Go.RowKit Go.Xw Go.Proofs
open Go.Xp (Tok Nd T signOf one levels Ar digs E S er ers wt wts blkTree blkTxt blkFit)
open Go.Sp
attribute [local irreducible] GW GL GO YG GC GA gthn ginb
theorem l08Fits_g (p:Src) (hp:smSrc p) (ls:List (List S)) (hb:Bodies p ls):GF Tryz.prog 90 [.agg (encSrc p)] [] (.v (.bool (ls.all fun l=>blkFit l 1))) []:=by
 refine GC.enter Tryz.func90 Tryz.ntmps90 rfl (by simp only [gframe,grep,Nat.reduceSub];rfl) ?_
 refine w_grun ?_
 refine GW.range (p.fns.map encFn).length (fun k fr Γ=>fr=[.any,.loc 0 0,.any,.any,.any,.any,.any,.any,.sl 3 (p.fns.map encFn),.v (ii ((p.fns.map encFn).length:Int)),.v (ii (k:Nat)),.any,.any,.any,.any,.any,.any,.any,.any,.any,.any,.any,.any,.any,.any,.any,.any,.any,.any,.any,.any,.any,.any,.any,.any,.any,.any,.any,.any,.any,.any,.any,.any,.any,.any]∧Γ=[.box 28 (encSrc p)]∧((ls.take k).all fun l=>blkFit l 1)=true) ?_ (by simpa using by have:=hp.fns.1;omega) ?_ ?_ ?_
 ·exact ⟨_,_,Wk.frm w_wkf,rfl,rfl,rfl⟩
 ·rintro k _ _ ⟨rfl,rfl,_⟩;exact ⟨rfl,rfl,rfl⟩
 ·rintro k _ _ hk ⟨rfl,rfl,hf⟩
  have hk:k < p.fns.length:=by simpa using hk
  have hkl:k < ls.length:=by rw [hb.len];exact hk
  have hx:p.fns[k]?=some p.fns[k]:=by simp [hk]
  have hxl:ls[k]?=some ls[k]:=by simp [hkl]
  have hr:=row_fn hx
  obtain ⟨h0,ho,hw,t,hsub,her⟩:=hb.at_ k _ _ hx hxl
  have hs:=sub_g p (fun n hn=>(hp.nodes.2 n hn).2) _ _ _ hsub
  rw [Int.toNat_of_nonneg h0] at hs
  have hwr:=writeB true ls[k] t ho her (by unfold lim;omega)
  obtain ⟨ts,t2,q,f,h1,h2,h3,h4,h5,h6,h7⟩:=blk_run ho hw
  have htk:=l08Toks_g _ ts (by omega) h1
  have hmp:RS.ok ⟨ts,0,(blkTxt E.txt ls[k]).length,0,0⟩:=⟨Nat.zero_le _,by simp only;omega⟩
  have hblk:=(sds f).block 1 _ t2 q hmp (by omega) h5
  have hto:(E.out true)=E.txt:=by funext a;rfl
  rw [hto] at hwr
  generalize blkTxt E.txt ls[k]=tx at *
  generalize hfit:blkFit ls[k] 1=fit at *
  generalize p.fns[k]=x at *
  rcases h7 with ⟨h7,h8,rfl⟩ | ⟨h7,rfl⟩
  ·have hc1:(q.code != 0)=false:=by simpa using h7
   have hc2:((q.i:Int) != ((q.l.map encTok).length:Int))=false:=by rw [List.length_map,h6];simp [h8]
   refine w_grun ?_
   refine w_gcall [] (hs) ?_
   refine w_grun ?_
   refine w_gcall [] (hwr) ?_
   refine w_grun ?_
   refine w_gcall [] (htk) ?_
   refine w_grun ?_
   refine w_gcall [2] (hblk) ?_
   refine w_grun ?_
   refine GW.draw (.q 0 (.q 1 (.q 2 (.q 3 (.q 4 (.q 5 (.q 6 (.q 7 (.q 8 (.q 9 (.q 10 (.q 11 (.q 12 (.q 13 (.q 14 (.q 15 (.q 16 .nil))))))))))))))))) (by kernel_rfl) (by kernel_rfl) ?_
   refine w_gorun ?_
   refine w_grun ?_
   exact ⟨rfl,rfl,_,_,(Wk.cut (n:=1) (Nat.le_of_ble_eq_true rfl) rfl).trans (Wk.frm w_wkf),rfl,rfl,all_step hxl hf hfit⟩
  ·have hc1:(q.code != 0)=true:=by simpa using h7
   have hall:(ls.all fun l=>blkFit l 1)=false:=all_no hxl hfit
   rw [hall]
   refine w_grun ?_
   refine w_gcall [] (hs) ?_
   refine w_grun ?_
   refine w_gcall [] (hwr) ?_
   refine w_grun ?_
   refine w_gcall [] (htk) ?_
   refine w_grun ?_
   refine w_gcall [2] (hblk) ?_
   refine w_grun ?_
   refine GW.draw (.q 0 (.q 1 (.q 2 (.q 3 (.q 4 (.q 5 (.q 6 (.q 7 (.q 8 (.q 9 (.q 10 (.q 11 (.q 12 (.q 13 (.q 14 (.q 15 (.q 16 .nil))))))))))))))))) (by kernel_rfl) (by kernel_rfl) ?_
   refine w_gorun ?_
   refine w_grun ?_
   refine w_gret ?_
   exact ⟨rfl,rfl⟩
 ·rintro _ _ ⟨rfl,rfl,hf⟩
  rw [List.take_of_length_le (by rw [List.length_map,hb.len];exact Nat.le_refl _)] at hf
  rw [hf]
  refine w_grun ?_
  refine w_gret ?_
  exact ⟨rfl,rfl⟩
theorem FormOk2_f (p:Src) (hp:smSrc p) (h:stand p=some false):GF Tryz.prog 38 [.agg (encSrc p)] [] (.v (.bool false)) []:=by
 have hs:=l08Stand_g p hp false h
 refine GC.enter Tryz.func38 Tryz.ntmps38 rfl (by simp only [gframe,grep,Nat.reduceSub];rfl) ?_
 refine w_grun ?_
 refine w_gcall [] (hs) ?_
 refine w_grun ?_
 refine w_gret ?_
 exact ⟨rfl,rfl⟩
theorem FormOk2_t (p:Src) (hp:smSrc p) (h:stand p=some true) (ls:List (List S)) (hb:Bodies p ls):GF Tryz.prog 38 [.agg (encSrc p)] [] (.v (.bool (ls.all fun l=>blkFit l 1))) []:=by
 have hs:=l08Stand_g p hp true h
 have hf:=l08Fits_g p hp ls hb
 generalize (ls.all fun l=>blkFit l 1)=b at *
 refine GC.enter Tryz.func38 Tryz.ntmps38 rfl (by simp only [gframe,grep,Nat.reduceSub];rfl) ?_
 refine w_grun ?_
 refine w_gcall [] (hs) ?_
 refine w_grun ?_
 refine w_gcall [] (hf) ?_
 refine w_grun ?_
 refine w_gret ?_
 exact ⟨rfl,rfl⟩
end Go.Xg
namespace Go.Xg
open Go.RowKit Go.Xw Go.Proofs
open Go.Xp (Tok Nd T levels Ar E S er wt blkTree blkTxt blkFit)
open Go.Sp
open Go.Im
attribute [local irreducible] GW GL GO YG GC GA gthn ginb
theorem smSrc_w {p:Src} (hw:wSrc p≤1048576):smSrc p:=by
 obtain ⟨⟨a1,a2⟩,⟨b1,b2⟩,⟨c1,c2⟩,⟨d1,d2⟩⟩:=small_w p
 exact ⟨⟨by omega,fun s hs=>by have:=a2 s hs;omega⟩,⟨by omega,fun s hs=>by have:=b2 s hs;omega⟩,⟨by omega,fun f hf=>by obtain ⟨e1,e2,e3⟩:=c2 f hf;exact ⟨by omega,by omega,fun s hs=>by have:=e3 s hs;omega⟩⟩,⟨by omega,fun n hn=>by obtain ⟨e1,e2⟩:=d2 n hn;exact ⟨by omega,by omega⟩⟩⟩
theorem FormOk2_g (p:Src) (hw:wSrc p≤1048576):GF Tryz.prog 38 [.agg (encSrc p)] [] (.v (.bool (fI p))) []:=by
 have hsm:=smSrc_w hw
 obtain ⟨b,hb⟩:=stand_some p
 cases b with
 | false=>rw [fI_f hb];exact FormOk2_f p hsm hb
 | true =>
  obtain ⟨l,hl⟩:=stand_t hb
  obtain ⟨ls,hf⟩:=hl.forms
  rw [fI_t hl hf]
  exact FormOk2_t p hsm hb ls (bodies_of hl hf hw)
theorem TightExpr_no (p:Src) (i:Int) (hF:GF Tryz.prog 38 [.agg (encSrc p)] [] (.v (.bool false)) []):GF Tryz.prog 11 [.agg (encSrc p),.v (ii i)] [] (.v (sv [])) []:=by
 refine GC.enter Tryz.func11 Tryz.ntmps11 rfl (by simp only [gframe,grep,Nat.reduceSub];rfl) ?_
 refine w_grun ?_
 refine w_gcall [] (hF) ?_
 refine w_grun ?_
 refine w_gret ?_
 exact ⟨rfl,rfl⟩
theorem TightExpr_neg (p:Src) (i:Int) (hF:GF Tryz.prog 38 [.agg (encSrc p)] [] (.v (.bool true)) []) (hi:i < 0):GF Tryz.prog 11 [.agg (encSrc p),.v (ii i)] [] (.v (sv [])) []:=by
 have h1:decide (i < 0)=true:=by simpa using hi
 refine GC.enter Tryz.func11 Tryz.ntmps11 rfl (by simp only [gframe,grep,Nat.reduceSub];rfl) ?_
 refine w_grun ?_
 refine w_gcall [] (hF) ?_
 refine w_grun ?_
 refine w_gret ?_
 exact ⟨rfl,rfl⟩
theorem TightExpr_big (p:Src) (i:Int) (hF:GF Tryz.prog 38 [.agg (encSrc p)] [] (.v (.bool true)) []) (hi:0≤i) (hl:(p.nodes.length:Int)≤i):GF Tryz.prog 11 [.agg (encSrc p),.v (ii i)] [] (.v (sv [])) []:=by
 have h1:decide (i < 0)=false:=by simpa using hi
 have h2:decide (((p.nodes.map encNode).length:Int)≤i)=true:=by simpa using hl
 refine GC.enter Tryz.func11 Tryz.ntmps11 rfl (by simp only [gframe,grep,Nat.reduceSub];rfl) ?_
 refine w_grun ?_
 refine w_gcall [] (hF) ?_
 refine w_grun ?_
 refine w_gret ?_
 exact ⟨rfl,rfl⟩
theorem TightExpr_kind (p:Src) (i:Nat) (n:Nd) (hF:GF Tryz.prog 38 [.agg (encSrc p)] [] (.v (.bool true)) []) (hi:p.nodes[i]?=some n) (hk:isExpr n.kind=false):GF Tryz.prog 11 [.agg (encSrc p),.v (ii (i:Nat))] [] (.v (sv [])) []:=by
 have hlt:=(List.getElem?_eq_some_iff.1 hi).1
 have h1:decide (((i:Nat):Int) < 0)=false:=by simp
 have h2:decide (((p.nodes.map encNode).length:Int)≤(i:Nat))=false:=by simpa using hlt
 have hr:(p.nodes.map encNode)[i]?=some (encNode n):=by rw [List.getElem?_map,hi];rfl
 have hE:=l08IsExpr_g n.kind
 rw [hk] at hE
 refine GC.enter Tryz.func11 Tryz.ntmps11 rfl (by simp only [gframe,grep,Nat.reduceSub];rfl) ?_
 refine w_grun ?_
 refine w_gcall [] (hF) ?_
 refine w_grun ?_
 refine w_gcall [] (hE) ?_
 refine w_grun ?_
 refine w_gret ?_
 exact ⟨rfl,rfl⟩
theorem TightExpr_yes (p:Src) (i:Nat) (n:Nd) (u:T) (x:Go.Xp.Str) (hF:GF Tryz.prog 38 [.agg (encSrc p)] [] (.v (.bool true)) []) (hi:p.nodes[i]?=some n) (hk:isExpr n.kind=true)
  (hS:GF Tryz.prog 41 [.agg (encSrc p),.v (ii (i:Nat))] [] (.agg (cT u)) []) (hL:GF Tryz.prog 40 [.agg (cT u),.v (ii 0)] [] (.v (sv x)) []):GF Tryz.prog 11 [.agg (encSrc p),.v (ii (i:Nat))] [] (.v (sv x)) []:=by
 have hlt:=(List.getElem?_eq_some_iff.1 hi).1
 have h1:decide (((i:Nat):Int) < 0)=false:=by simp
 have h2:decide (((p.nodes.map encNode).length:Int)≤(i:Nat))=false:=by simpa using hlt
 have hr:(p.nodes.map encNode)[i]?=some (encNode n):=by rw [List.getElem?_map,hi];rfl
 have hE:=l08IsExpr_g n.kind
 rw [hk] at hE
 refine GC.enter Tryz.func11 Tryz.ntmps11 rfl (by simp only [gframe,grep,Nat.reduceSub];rfl) ?_
 refine w_grun ?_
 refine w_gcall [] (hF) ?_
 refine w_grun ?_
 refine w_gcall [] (hE) ?_
 refine w_grun ?_
 refine w_gcall [] (hS) ?_
 refine w_grun ?_
 refine w_gcall [] (hL) ?_
 refine w_grun ?_
 refine w_gret ?_
 exact ⟨rfl,rfl⟩
theorem TightExpr_g (p:Src) (hw:wSrc p≤1048576) (hn:Nums p) (i:Int):GF Tryz.prog 11 [.agg (encSrc p),.v (ii i)] [] (.v (sv (tE p i))) []:=by
 have hF:=FormOk2_g p hw
 have hsm:=smSrc_w hw
 cases hf:fI p with
 | false=>rw [hf] at hF;rw [tE_no hf];exact TightExpr_no p i hF
 | true =>
  rw [hf] at hF
  by_cases h0:i < 0
  ·rw [tE_out (.inl h0)];exact TightExpr_neg p i hF h0
  by_cases h1:(p.nodes.length:Int)≤i
  ·rw [tE_out (.inr h1)];exact TightExpr_big p i hF (by omega) h1
  obtain ⟨k,rfl⟩:∃ k:Nat,i=(k:Int):=⟨i.toNat,by omega⟩
  have hlt:k < p.nodes.length:=by omega
  have hi:p.nodes[k]?=some p.nodes[k]:=by simp [hlt]
  cases hk:isExpr p.nodes[k].kind with
  | false=>rw [tE_kind hi hk];exact TightExpr_kind p k _ hF hi hk
  | true =>
   obtain ⟨l,hl⟩:=fI_stands hf
   obtain ⟨u,a,hx⟩:=ex_at hl hn hi hk
   obtain ⟨e,he⟩:=hx.tr
   have hwt:=wt_wtI u
   have hwu:=hx.wt
   have hwa:wt a.tree≤lim:=by rw [←hx.er,Go.Xp.wt_er];unfold lim;omega
   have hL:=leastP a u 0 hx.ok hx.er hwa
   rw [tE_yes hi hf hk he,hx.txt]
   refine TightExpr_yes p k _ u a.txt hF hi hk (sub_g p (fun n hn=>(hsm.nodes.2 n hn).2) _ k u hx.sub) ?_
   exact hL
end Go.Xg
