/- Part 6 of proofs that are told in their last texts. -/
import Derived.Test.YtaopilmekfecpaaGreatDoorZ5
import Derived.Test.YtaopilmekfecpaaGreatDoorZ3
import Derived.Deep.Slices
import Derived.Deep.Fields
import Derived.ChangeSame
import Derived.Lib.SmallJoins
import Derived.SliceStrings
import Derived.ChangeSlices
import Derived.Lib.LaidU8
import Derived.Shelf.Vars
import Derived.Laws.Bits128
import Derived.Lib.AppendStr
import Derived.Laws.OwnMore
import Derived.Test.YtaopilmekfecpaaGreatDoorZ2
set_option linter.unusedVariables false
set_option linter.unusedSimpArgs false
set_option maxRecDepth 100000
namespace Go.Xg
open Go.RowKit Go.Xw Go.Proofs
open Go.WideShapes Go.Deep
open Go.Xp (Nd Ar)
open Go.Sp (Src)
open Go.Im (Small Nums)
def flat (v:Value):Prop:=∀ a n c,v≠.slice a n c
def HasL (W:World) (v:Value) (xs:List Value):Prop:=∃ a c,v=.slice a xs.length c∧(xs=[]∨∃ b o,a=some ⟨b,o,none⟩∧xs.length≤c∧∀ i x,xs[i]?=some x→cellH W.heap b (o+i)=some x∧flat x)
theorem HasL.uniq {W:World} {v:Value} {xs ys:List Value} (h:HasL W v xs) (k:HasL W v ys):xs=ys:=by
 obtain ⟨a,c,h1,h2⟩:=h
 obtain ⟨a',c',k1,k2⟩:=k
 rw [h1] at k1
 injection k1 with e1 e2 e3
 subst e1 e3
 rcases h2 with rfl | ⟨b,o,h3,h4,h5⟩
 ·exact (List.eq_nil_of_length_eq_zero (by simpa using e2.symm)).symm
 ·rcases k2 with rfl | ⟨b',o',k3,k4,k5⟩
  ·exact List.eq_nil_of_length_eq_zero (by simpa using e2)
  ·rw [h3] at k3;cases k3
   apply List.ext_getElem e2
   intro i hi hj
   have a1:=(h5 i _ (List.getElem?_eq_getElem hi)).1
   have a2:=(k5 i _ (List.getElem?_eq_getElem hj)).1
   rw [a1] at a2;exact Option.some.inj a2
open Classical in
noncomputable def KW (W:World):Fz:=fun b o=>match cellH W.heap b o with
 | none=>none
 | some v=>if ∃ a n c,v=.slice a n c then (if h:∃ xs,HasL W v xs then some (.sl 1 (h.choose.map fun x=>[.v x])) else none) else some (.v v)
theorem KW_flat {W:World} {b o:Nat} {v:Value} (h:cellH W.heap b o=some v) (hf:flat v):KW W b o=some (.v v):=by
 unfold KW
 rw [h]
 simp only
 rw [if_neg (by rintro ⟨a,n,c,e⟩;exact hf a n c e)]
theorem KW_sl {W:World} {b o:Nat} {v:Value} {xs:List Value} (h:cellH W.heap b o=some v) (hx:HasL W v xs):KW W b o=some (.sl 1 (xs.map fun x=>[.v x])):=by
 have hs:∃ a n c,v=.slice a n c:=by obtain ⟨a,c,e,_⟩:=hx;exact ⟨_,_,_,e⟩
 have hex:∃ xs,HasL W v xs:=⟨xs,hx⟩
 unfold KW
 rw [h]
 simp only
 rw [if_pos hs,dif_pos hex,hex.choose_spec.uniq hx]
theorem rel_sl {W:World} {v:Value} {xs:List Value} (hx:HasL W v xs) (β:Bt):Rel (KW W) β v (.sl 1 (xs.map fun x=>[GV.v x])):=by
 obtain ⟨a,c,rfl,h⟩:=hx
 rcases h with rfl | ⟨b,o,rfl,hc,hcell⟩
 ·exact .sl0 a c 1
 ·have:=Rel.sl (K:=KW W) (β:=β) b o c 1 (xs.map fun x=>[GV.v x]) (fun i r hr=>by
   rw [List.getElem?_map] at hr
   cases hi:xs[i]? with
   | none=>rw [hi] at hr;cases hr
   | some x =>
    rw [hi] at hr;cases hr
    obtain ⟨h1,h2⟩:=hcell i x hi
    refine ⟨rfl,fun j g hg=>?_⟩
    cases j with
    | zero=>cases hg;rw [Nat.mul_one,Nat.add_zero];exact KW_flat h1 h2
    | succ j=>simp at hg) (by rw [List.length_map];exact hc)
  rw [List.length_map] at this
  exact this
theorem KW_ok (W:World):FzOk (KW W) W:=fun b o g h=>by
 unfold KW at h
 cases hc:cellH W.heap b o with
 | none=>rw [hc] at h;cases h
 | some v =>
  rw [hc] at h
  simp only at h
  split at h
  ·split at h
   ·rename_i hex
    cases h
    exact ⟨rfl,v,rfl,rel_sl hex.choose_spec _⟩
   ·cases h
  ·cases h
   exact ⟨rfl,v,rfl,.v v⟩
theorem rel_rows {W:World} {v:Value} {k:Nat} {rows:List (List GV)} {a:Option Addr} {n c:Nat} (β:Bt) (hv:v=.slice a n c) (hn:rows.length=n)
  (h:n=0∨∃ b o,a=some ⟨b,o,none⟩∧n≤c∧∀ i r,rows[i]?=some r→r.length=k∧∀ j g,r[j]?=some g→KW W b (o+i * k+j)=some g):Rel (KW W) β v (.sl k rows):=by
 subst hv hn
 rcases h with h | ⟨b,o,rfl,hc,hr⟩
 ·have:=List.eq_nil_of_length_eq_zero h
  subst this
  exact .sl0 a c k
 ·exact .sl b o c k rows hr hc
theorem cell_add {W:World} {a:Addr} {n:Nat} {v:Value} (h:W.cell? (a.add n)=some v):cellH W.heap a.block (a.off+n)=some v:=by
 unfold Addr.add at h
 split at h
 ·rename_i h0
  subst h0
  obtain ⟨b,o,s⟩:=a
  have hs:=World.cell?_spot h
  simp only at hs
  subst hs
  rw [cell_eq] at h;exact h
 ·obtain ⟨b,o,s⟩:=a
  simp only at h
  rw [cell_eq] at h;exact h
theorem add_spot {W:World} {a:Addr} {v:Value} (h:W.cell? (a.add 0)=some v):a.spot=none:=by
 have:=World.cell?_spot h
 unfold Addr.add at this
 rw [if_pos rfl] at this;exact this
theorem exists_list {α:Type} {Q:Nat→α→Prop}:∀ {n:Nat},(∀ i,i < n→∃ x,Q i x)→∃ l:List α,l.length=n∧∀ i x,l[i]?=some x→Q i x
 | 0,_=>⟨[],rfl,fun i x h=>by simp at h⟩
 | n+1,h=>by
  obtain ⟨l,h1,h2⟩:=exists_list (n:=n) fun i hi=>h i (by omega)
  obtain ⟨x,hx⟩:=h n (by omega)
  refine ⟨l++[x],by simp [h1],fun i y hi=>?_⟩
  by_cases hil:i < n
  ·rw [List.getElem?_append_left (by omega)] at hi
   exact h2 i y hi
  ·have hlt:=(List.getElem?_eq_some_iff.1 hi).1
   rw [List.length_append,List.length_cons,List.length_nil] at hlt
   have:i=n:=by omega
   subst this
   rw [List.getElem?_append_right (by omega),h1,Nat.sub_self] at hi
   cases hi;exact hx
theorem max_le {n:Nat} (h:n≤maxLen):n≤9223372036854775807:=by unfold maxLen at h;omega
section
variable {H:Type} {enc:TypeId × Value→H} {P:Program} {W:World}
theorem openStrs {t e:TypeId} {n:Nat} {v:Value} {y:DataW H × List MemPlace} (ht:P.underlying t=some (.slice e)) (he:P.underlying e=some .string) (hc:P.cellsOf e=1) (h:DataW.trod enc P W 0 (fun _=>true) true n t [v]=some y) :
  ∃ l:List Str,HasL W v (l.map sv)∧l.length≤9223372036854775807∧∀ s∈l,s.length≤9223372036854775807:=by
 rcases open_slice1 ht hc h with ⟨hcs,_⟩ | ⟨a,len,cap,m,n',V,D,Pl,hcs,_,hl,hm,hmm,_,hx⟩
 ·injection hcs with hv;subst hv
  exact ⟨[],⟨none,0,rfl,.inl rfl⟩,Nat.zero_le _,fun s h=>by cases h⟩
 ·injection hcs with hv _;subst hv
  simp only [if_true] at hmm
  obtain ⟨l,h1,h2⟩:=exists_list (n:=len) (Q:=fun i (s:Str)=>W.cell? (a.add i)=some (sv s)∧s.length≤9223372036854775807) (fun i hi=>by
   obtain ⟨c1,c2⟩:=hx i (by omega)
   obtain ⟨s,hs,_,hz⟩:=DataW.trod_string he c2
   injection hs with hs _
   rw [hs] at c1
   exact ⟨s.data.toList,by rw [←sv_of];exact c1,max_le hz⟩)
  refine ⟨l,⟨some a,cap,by rw [List.length_map,h1],?_⟩,by rw [h1];exact max_le (Nat.le_trans hl hm),fun s hs=>?_⟩
  ·by_cases h0:len=0
   ·have:l=[]:=List.eq_nil_of_length_eq_zero (by omega)
    subst this;exact .inl rfl
   ·refine .inr ⟨a.block,a.off,?_,by rw [List.length_map,h1];exact hl,fun i x hi=>?_⟩
    ·have hl0:l[0]?=some (l[0]'(by omega)):=List.getElem?_eq_getElem _
     have:=add_spot (h2 0 _ hl0).1
     obtain ⟨b,o,s⟩:=a
     simp only at this
     rw [this]
    ·rw [List.getElem?_map] at hi
     cases hli:l[i]? with
     | none=>rw [hli] at hi;cases hi
     | some s =>
      rw [hli] at hi;cases hi
      exact ⟨cell_add (h2 i s hli).1,fun a n c e=>by cases e⟩
  ·obtain ⟨i,hi⟩:=List.getElem?_of_mem hs
   exact (h2 i s hi).2
theorem openInts {t e:TypeId} {n:Nat} {v:Value} {y:DataW H × List MemPlace} (ht:P.underlying t=some (.slice e)) (he:P.underlying e=some (.int .i64)) (hc:P.cellsOf e=1) (h:DataW.trod enc P W 0 (fun _=>true) true n t [v]=some y) :
  ∃ l:List Int,HasL W v (l.map ii)∧l.length≤9223372036854775807:=by
 rcases open_slice1 ht hc h with ⟨hcs,_⟩ | ⟨a,len,cap,m,n',V,D,Pl,hcs,_,hl,hm,hmm,_,hx⟩
 ·injection hcs with hv;subst hv
  exact ⟨[],⟨none,0,rfl,.inl rfl⟩,Nat.zero_le _⟩
 ·injection hcs with hv _;subst hv
  simp only [if_true] at hmm
  obtain ⟨l,h1,h2⟩:=exists_list (n:=len) (Q:=fun i (z:Int)=>W.cell? (a.add i)=some (ii z)) (fun i hi=>by
   obtain ⟨c1,c2⟩:=hx i (by omega)
   obtain ⟨z,hs,_,hz⟩:=DataW.trod_int he c2
   injection hs with hs _
   rw [hs] at c1
   exact ⟨z,c1⟩)
  refine ⟨l,⟨some a,cap,by rw [List.length_map,h1],?_⟩,by rw [h1];exact max_le (Nat.le_trans hl hm)⟩
  by_cases h0:len=0
  ·have:l=[]:=List.eq_nil_of_length_eq_zero (by omega)
   subst this;exact .inl rfl
  ·refine .inr ⟨a.block,a.off,?_,by rw [List.length_map,h1];exact hl,fun i x hi=>?_⟩
   ·have hl0:l[0]?=some (l[0]'(by omega)):=List.getElem?_eq_getElem _
    have:=add_spot (h2 0 _ hl0)
    obtain ⟨b,o,s⟩:=a
    simp only at this
    rw [this]
   ·rw [List.getElem?_map] at hi
    cases hli:l[i]? with
    | none=>rw [hli] at hi;cases hi
    | some s =>
     rw [hli] at hi;cases hi
     exact ⟨cell_add (h2 i s hli),fun a n c e=>by cases e⟩
theorem openRows {α:Type} {t e:TypeId} {fs:Array Field} {k n:Nat} {v:Value} {y:DataW H × List MemPlace} (f:α→List GV) (Q:α→Prop) (β:Bt) (ht:P.underlying t=some (.slice e)) (he:P.underlying e=some (.struct fs)) (hone:oneCellFields P fs=true) (hC:P.cellsOf e=k) (hk:fs.size=k) (hk0:0 < k)
  (each:∀ b o,(∀ (j:Nat) (fl:Field),fs[j]?=some fl→∃ v y n,cellH W.heap b (o+j)=some v∧DataW.trod enc P W 0 (fun _=>true) true n fl.type [v]=some y)→∃ x,Q x∧(f x).length=k∧∀ j g,(f x)[j]?=some g→KW W b (o+j)=some g)
  (h:DataW.trod enc P W 0 (fun _=>true) true n t [v]=some y):∃ l:List α,Rel (KW W) β v (.sl k (l.map f))∧l.length≤9223372036854775807∧∀ x∈l,Q x:=by
 rcases open_slice ht h with ⟨hcs,_⟩ | ⟨a,len,cap,m,n',D,Pl,hcs,_,hl,hm,hmm,_,hx⟩
 ·injection hcs with hv;subst hv
  exact ⟨[],.sl0 none 0 k,Nat.zero_le _,fun s h=>by cases h⟩
 ·injection hcs with hv _;subst hv
  simp only [if_true] at hmm
  have hcell:∀ i,i < len→∀ (j:Nat) (fl:Field),fs[j]?=some fl→∃ v y n,W.cell? (a.add (i * k+j))=some v∧DataW.trod enc P W 0 (fun _=>true) true n fl.type [v]=some y:=by
   intro i hi j fl hj
   obtain ⟨cs',hc,ht'⟩:=hx i (by omega)
   rw [hC] at hc
   obtain ⟨ys,n',hn',hy,hlen,hyl,hf⟩:=DataW.trod_struct he ht'
   obtain ⟨_,hcl,hat⟩:=World.cells?_some hc
   obtain ⟨ho,hk1⟩:=hone_of hone j fl hj
   have hjl:j < fs.size:=(Array.getElem?_eq_some_iff.1 hj).1
   have hcell:=hat j (by omega)
   have hv:cs'[j]?=some (cs'[j]'(by omega)):=List.getElem?_eq_getElem (by omega)
   have h1:=hf j fl hj
   rw [ho,hk1] at h1
   have hone':(cs'.drop j).take 1=[cs'[j]'(by omega)]:=by
    rw [List.drop_eq_getElem_cons (by omega)]
    rfl
   rw [hone'] at h1
   have hys:ys[j]?=some (ys[j]'(by omega)):=List.getElem?_eq_getElem (by omega)
   refine ⟨_,_,_,?_,h1.trans hys⟩
   rw [←Go.Deep.add_add,hcell,hv]
  obtain ⟨l,h1,h2⟩:=exists_list (n:=len) (Q:=fun i x=>Q x∧(f x).length=k∧∀ j g,(f x)[j]?=some g→KW W a.block (a.off+i * k+j)=some g) (fun i hi =>
   each a.block (a.off+i * k) fun j fl hj=>by
    obtain ⟨v,y,n,c1,c2⟩:=hcell i hi j fl hj
    exact ⟨v,y,n,by rw [Nat.add_assoc];exact cell_add c1,c2⟩)
  refine ⟨l,rel_rows (n:=len) (c:=cap) β rfl (by rw [List.length_map,h1]) ?_,by rw [h1];exact max_le (Nat.le_trans hl hm),fun x hx=>?_⟩
  ·by_cases h0:len=0
   ·exact .inl h0
   ·refine .inr ⟨a.block,a.off,?_,hl,fun i r hr=>?_⟩
    ·obtain ⟨v,y,n,c1,c2⟩:=hcell 0 (by omega) 0 (fs[0]'(by omega)) (Array.getElem?_eq_getElem (by omega))
     rw [Nat.zero_mul,Nat.add_zero] at c1
     have:=add_spot c1
     obtain ⟨b,o,s⟩:=a
     simp only at this
     rw [this]
    ·rw [List.getElem?_map] at hr
     cases hli:l[i]? with
     | none=>rw [hli] at hr;cases hr
     | some x =>
      rw [hli] at hr;cases hr
      exact (h2 i x hli).2
  ·obtain ⟨i,hi⟩:=List.getElem?_of_mem hx
   exact (h2 i x hi).1
end
theorem strs_map (l:List Str):GV.sl 1 ((l.map sv).map fun x=>[GV.v x])=strs l:=by rw [List.map_map];rfl
theorem ints_map (l:List Int):GV.sl 1 ((l.map ii).map fun x=>[GV.v x])=ints l:=by rw [List.map_map];rfl
theorem wf_i64 {z:Int} (h:(Lit.int .i64 z).wf=true) : -9223372036854775808≤z∧z≤9223372036854775807:=by
 simp only [Lit.wf,Bool.and_eq_true,decide_eq_true_eq] at h
 have h1:IntKind.min .i64 = -9223372036854775808:=by decide
 have h2:IntKind.max .i64=9223372036854775807:=by decide
 rw [h1,h2] at h
 exact h
theorem flat_ii (z:Int):flat (ii z):=fun a n c e=>by cases e
section
variable {H:Type} {enc:TypeId × Value→H} {W:World}
theorem open_src (β:Bt) {v:Value} {d:DataW H} {ps:List MemPlace} {r:Reach} {b0:Nat} (hv:Value.okWide Tryz.prog W r b0 39 v) (h:DataW.Trod enc Tryz.prog W 0 (fun _=>true) true 39 v d ps) :
  ∃ p:Src,Rel (KW W) β v (.agg (encSrc p))∧Small p 9223372036854775807∧Nums p:=by
 obtain ⟨v0,v1,v2,v3,y0,y1,y2,y3,n,rfl,_,_,h0,h1,h2,h3⟩:=Go.Joins.open_agg4 Tryz.underlying39 (by kernel_rfl) (by kernel_rfl) hv h
 have c9:Tryz.prog.cellsOf 9=1:=by kernel_rfl
 have c3:Tryz.prog.cellsOf 3=1:=by kernel_rfl
 obtain ⟨gs,g1,g2,g3⟩:=openStrs Tryz.underlying23 Tryz.underlying9 c9 h0
 obtain ⟨ars,a1,a2,a3⟩:=openRows encAr (fun x=>x.name.length≤9223372036854775807 ∧ -9223372036854775808≤x.size∧x.size≤9223372036854775807) β Tryz.underlying35 Tryz.underlying124 (by kernel_rfl) (k:=2) (by kernel_rfl) rfl (by omega) (fun b o hf=>by
  obtain ⟨u0,z0,n0,x0,w0⟩:=hf 0 _ rfl
  obtain ⟨u1,z1,n1,x1,w1⟩:=hf 1 _ rfl
  obtain ⟨s,hs,_,hz⟩:=DataW.trod_string Tryz.underlying9 w0
  obtain ⟨z,hs1,_,hz1⟩:=DataW.trod_int Tryz.underlying3 w1
  injection hs with hs _
  injection hs1 with hs1 _
  subst hs hs1
  refine ⟨⟨s.data.toList,z⟩,⟨max_le hz,wf_i64 hz1⟩,rfl,fun j g hg=>?_⟩
  match j,hg with
  | 0,hg=>cases hg;rw [←sv_of];exact KW_flat x0 fun a n c e=>by cases e
  | 1,hg=>cases hg;exact KW_flat x1 (flat_ii z)
  | j+2,hg=>simp [encAr] at hg) h1
 obtain ⟨fs,f1,f2,f3⟩:=openRows encFn (fun x=>x.name.length≤9223372036854775807∧x.params.length≤9223372036854775807∧∀ s∈x.params,s.length≤9223372036854775807) β Tryz.underlying36 Tryz.underlying126 (by kernel_rfl) (k:=3) (by kernel_rfl) rfl (by omega) (fun b o hf=>by
  obtain ⟨u0,z0,n0,x0,w0⟩:=hf 0 _ rfl
  obtain ⟨u1,z1,n1,x1,w1⟩:=hf 1 _ rfl
  obtain ⟨u2,z2,n2,x2,w2⟩:=hf 2 _ rfl
  obtain ⟨s,hs,_,hz⟩:=DataW.trod_string Tryz.underlying9 w0
  obtain ⟨l,hl1,hl2,hl3⟩:=openStrs Tryz.underlying23 Tryz.underlying9 c9 w1
  obtain ⟨z,hs1,_,hz1⟩:=DataW.trod_int Tryz.underlying3 w2
  injection hs with hs _
  injection hs1 with hs1 _
  subst hs hs1
  refine ⟨⟨s.data.toList,l,z⟩,⟨max_le hz,hl2,hl3⟩,rfl,fun j g hg=>?_⟩
  match j,hg with
  | 0,hg=>cases hg;rw [←sv_of];exact KW_flat x0 fun a n c e=>by cases e
  | 1,hg=>cases hg;rw [KW_sl x1 hl1,strs_map]
  | 2,hg=>cases hg;exact KW_flat x2 (flat_ii z)
  | j+3,hg=>simp [encFn] at hg) h2
 obtain ⟨ns,k1,k2,k3⟩:=openRows encNode (fun x=>(x.s.length≤9223372036854775807∧x.kids.length≤9223372036854775807) ∧ -9223372036854775808≤x.n∧x.n≤9223372036854775807) β Tryz.underlying37 Tryz.underlying128 (by kernel_rfl) (k:=5) (by kernel_rfl) rfl (by omega) (fun b o hf=>by
  obtain ⟨u0,z0,n0,x0,w0⟩:=hf 0 _ rfl
  obtain ⟨u1,z1,n1,x1,w1⟩:=hf 1 _ rfl
  obtain ⟨u2,z2,n2,x2,w2⟩:=hf 2 _ rfl
  obtain ⟨u3,z3,n3,x3,w3⟩:=hf 3 _ rfl
  obtain ⟨u4,z4,n4,x4,w4⟩:=hf 4 _ rfl
  obtain ⟨i0,e0,_,_⟩:=DataW.trod_int Tryz.underlying3 w0
  obtain ⟨i1,e1,_,_⟩:=DataW.trod_int Tryz.underlying3 w1
  obtain ⟨i2,e2,_,q2⟩:=DataW.trod_int Tryz.underlying3 w2
  obtain ⟨s,hs,_,hz⟩:=DataW.trod_string Tryz.underlying9 w3
  obtain ⟨l,hl1,hl2⟩:=openInts Tryz.underlying59 Tryz.underlying3 c3 w4
  injection e0 with e0 _
  injection e1 with e1 _
  injection e2 with e2 _
  injection hs with hs _
  subst hs e0 e1 e2
  refine ⟨⟨i0,i1,i2,s.data.toList,l⟩,⟨⟨max_le hz,hl2⟩,wf_i64 q2⟩,rfl,fun j g hg=>?_⟩
  match j,hg with
  | 0,hg=>cases hg;exact KW_flat x0 (flat_ii _)
  | 1,hg=>cases hg;exact KW_flat x1 (flat_ii _)
  | 2,hg=>cases hg;exact KW_flat x2 (flat_ii _)
  | 3,hg=>cases hg;rw [←sv_of];exact KW_flat x3 fun a n c e=>by cases e
  | 4,hg=>cases hg;rw [KW_sl x4 hl1,ints_map]
  | j+5,hg=>simp [encNode] at hg) h3
 have r0:=rel_sl g1 β
 rw [strs_map] at r0
 refine ⟨⟨gs,ars,fs,ns⟩,?_,⟨⟨g2,g3⟩,⟨a2,fun x hx=>(a3 x hx).1⟩,⟨f2,f3⟩,⟨k2,fun x hx=>(k3 x hx).1⟩⟩,⟨fun x hx=>(a3 x hx).2,fun x hx=>(k3 x hx).2⟩⟩
 have hc:RelL (KW W) β [v0,v1,v2,v3] (encSrc ⟨gs,ars,fs,ns⟩):=.cons r0 (.cons a1 (.cons f1 (.cons k1 .nil)))
 exact .agg [v0,v1,v2,v3] _ hc.1 hc.2
end
end Go.Xg
namespace Go.Xg
open Go.RowKit Go.Xw Go.Proofs
open Go.Lib
theorem tab_of {P:Program} {W:World} {name:String} {k:IntKind} {zs:List Int} {g:Nat} {t e:TypeId} {n:Nat}
  (hg:P.globalNamed name=some g) (hty:(P.globals[g]?).map (·.type)=some t) (ht:P.underlying t=some (.array n e)) (he:P.underlying e=some (.int k)) (hce:P.cellsOf e=1) (hct:P.cellsOf t=n)
  (h:VarReads P W name (tabData k zs)):TabIs P W name k zs:=by
 obtain ⟨g',t',cs,fuel,p,hg',ht',hvar,hd⟩:=h
 obtain rfl:=Option.some.inj (hg.symm.trans hg')
 obtain rfl:=Option.some.inj (hty.symm.trans ht')
 unfold TabIs
 rw [hvar,←cells_of_tab ht he hce hct hd]
theorem tabB_of {P:Program} {W:World} {name:String} {k:IntKind} {zs:List Int} {g n:Nat} (hg:P.globalNamed name=some g) (hn:zs.length=n) (h:TabIs P W name k zs):TabB W g n:=by
 unfold TabIs World.var? at h
 rw [hg] at h
 simp only [Option.bind_some] at h
 cases hb:W.heap[g]? with
 | none=>rw [hb] at h;cases h
 | some o =>
  rw [hb] at h
  cases o with
  | cells cs E z =>
   simp only [Option.some.injEq] at h
   exact ⟨cs,E,z,hb,by rw [h];simpa using hn⟩
  | _=>cases h
theorem KW_tab {P:Program} {W:World} {name:String} {k:IntKind} {zs:List Int} {g:Nat} (hg:P.globalNamed name=some g) (h:TabIs P W name k zs) {o:Nat} {z:Int} (ho:zs[o]?=some z):KW W g o=some (.v (.int k z)):=by
 have hlt:=(List.getElem?_eq_some_iff.1 ho).1
 have hc:=h.cell hg o hlt
 rw [List.getD_eq_getElem?_getD,ho,cell_eq] at hc
 exact KW_flat hc fun a n c e=>by cases e
theorem tabs_of {W:World} (hp:VarReads Tryz.prog W "internal/strconv.uint64pow10" (tabData .u64 pow10T)) (hs:VarReads Tryz.prog W "strings.asciiSpace" (tabData .u8 spaceT)) (hW:W.ShapedOpen Tryz.prog):Tabs (KW W) (fun _=>.no) W:=by
 have gp:Tryz.prog.globalNamed "internal/strconv.uint64pow10" = some 1:=by kernel_rfl
 have gs:Tryz.prog.globalNamed "strings.asciiSpace" = some 2:=by kernel_rfl
 have tp:=tab_of gp (t:=224) (by kernel_rfl) Tryz.underlying224 (k:=.u64) (by kernel_rfl) (by kernel_rfl) (by kernel_rfl) hp
 have ts:=tab_of gs (t:=228) (by kernel_rfl) Tryz.underlying228 (k:=.u8) (by kernel_rfl) (by kernel_rfl) (by kernel_rfl) hs
 obtain ⟨m,hm⟩:=cell_of_shapedOpen_int (g:=0) (zero:=#[.int .i64 0]) (t:=3) hW (of_decide_eq_true (by kernel_rfl)) (by kernel_rfl) rfl (by kernel_rfl) (by kernel_rfl) Tryz.underlying3
 rw [cell_eq] at hm
 refine ⟨⟨m,fun b o g h=>?_⟩,tabB_of gp (by decide) tp,tabB_of gs (by decide) ts,fun i b h=>by cases h⟩
 unfold KTab at h
 split at h
 ·rename_i hb
  subst hb
  split at h
  ·cases h;exact KW_flat hm fun a n c e=>by cases e
  ·cases h
 ·split at h
  ·rename_i hb
   subst hb
   cases ho:pow10T[o]? with
   | none=>rw [ho] at h;cases h
   | some z=>rw [ho] at h;cases h;exact KW_tab gp tp ho
  ·split at h
   ·rename_i hb
    subst hb
    cases ho:spaceT[o]? with
    | none=>rw [ho] at h;cases h
    | some z=>rw [ho] at h;cases h;exact KW_tab gs ts ho
   ·cases h
theorem GF.calls {P:Program} {f:FuncId} {gs:List GV} {g:GV} (h:GF P f gs [] g []) {W:World} {vs:List Value} (hv:RelL (KW W) (fun _=>.no) vs gs) (hT:Tabs (KW W) (fun _=>.no) W) :
  Ret P f vs W fun v w'=>Below W.heap.size W w'∧∃ K β,Rel K β v g:=by
 have hI:Inv ⟨W,none',KW W,fun _=>.no,0⟩ (KW W) (fun _=>.no) [] W :=
  ⟨Ext.refl W,KLe.refl _,BLe.refl _,fun _ _=>rfl,KW_ok W,fun i x h=>by simp at h,fun _ _=>rfl,fun i j b h=>(by cases h),fun i b h=>(by cases h),fun b o g h=>.inl h,hT⟩
 refine (h ⟨W,none',KW W,fun _=>.no,0⟩ (KW W) (fun _=>.no) W vs rfl hI hv).mono ?_
 rintro v w' ⟨K',β',x,Γ',h1,h2,rfl,rfl⟩
 exact ⟨h1.ext.below,K',β',h2⟩
end Go.Xg
namespace Go.Xg
open Go.RowKit Go.Xw
theorem low32 (n:Int):bits .and .i64 n 4294967295=n % 4294967296:=by
 have h:(BitVec.ofInt 64 4294967295).toNat=2 ^ 32 - 1:=by decide
 have key:(BitVec.ofInt 64 n &&& BitVec.ofInt 64 4294967295).toNat=(n % ((2 ^ 64:Nat):Int)).toNat % 2 ^ 32:=by
  rw [BitVec.toNat_and,BitVec.toNat_ofInt,h,Nat.and_two_pow_sub_one_eq_mod]
 show IntKind.i64.wrap ((BitVec.ofInt 64 n &&& BitVec.ofInt 64 4294967295).toNat:Nat)=n % 4294967296
 rw [key,IntKind.wrap_i64]
 omega
section
variable {P:Program} {fr:List GV} {Γ:List Ob}
theorem YG.low32 {x y:Operand} {t t':TypeId} {a:Int} (hx:gev fr x=.v (ii a)) (hy:gev fr y=.v (ii 4294967295)):YG P (.binOp .and t x y t') fr Γ (.v (ii (a % 4294967296))) :=
 YG.v2 hx hy fun l w h k d ty pos af=>by
  simp [execOp,eqGuard,h,k,binOp,intBits_and,Go.Xg.low32]
end
end Go.Xg
namespace Go.Xw
open Go.RowKit
class ApB (P:Program) (t:TypeId) (e:outParam TypeId):Prop where
 is:P.underlying t=some (.slice e)∧∃ i,P.info? e=some i∧i.zero=some (.int .u8 0)∧i.size=1∧i.bytes=1
def apBIs (P:Program) (t e:TypeId):Bool :=
 (match P.underlying t with | some (.slice e')=>e'==e | _=>false)&&(match P.info? e with | some i=>(match i.zero with | some (.int .u8 0)=>true | _=>false)&&i.size==1&&i.bytes==1 | none=>false)
theorem ApB.mk' {P:Program} {t e:TypeId} (h:apBIs P t e=true):ApB P t e:=by
 unfold apBIs at h
 rw [Bool.and_eq_true] at h
 obtain ⟨h1,h2⟩:=h
 refine ⟨?_,?_⟩
 ·split at h1
  ·rename_i e' hu;rw [hu];simp at h1;rw [h1]
  ·cases h1
 ·split at h2
  ·rename_i i hi
   simp only [Bool.and_eq_true,beq_iff_eq] at h2
   obtain ⟨⟨h4,h5⟩,h6⟩:=h2
   split at h4
   ·rename_i hz;exact ⟨i,hi,hz,h5,h6⟩
   ·cases h4
  ·cases h2
section
variable {P:Program} {Q:Post} {l:List Value} {w:World} {ops:Array Oper} {rest:List Oper} {d:Option Tmp} {ty:TypeId} {pos:String} {af:Array Edge}
def bcells (s:Str):List Value:=s.map fun c=>.int .u8 (c.toNat:Int)
theorem WL.appS {s x:Operand} {t u e:Nat} [hT:ApB P t e] [hU:StrT P u] {base n:Nat} {xs:List Value} {v:Value} {str:Str} (hs:ev l s=v) (hown:Own w base e 1 v n xs) (hx:ev l x=sv str)
  (hbytes:n+str.length≤140737488355328) (hbase:base≤w.heap.size)
  (h:∀ v' w',Own w' base e 1 v' (n+str.length) (xs++bcells str)→Ext (fun b=>v.ownBlock=some b) w w'→(∀ b,v'.ownBlock=some b→v.ownBlock=some b∨w.heap.size≤b)→(Ext none' w w'∨v'.ownBlock=v.ownBlock)→WL P ops Q rest (put l d v') w') :
  WL P ops Q (⟨d,.call ⟨.builtin .append,#[s,x],#[t,u]⟩,ty,pos,af,none⟩::rest) l w:=by
 obtain ⟨hu,i,hi,hz,hsz,hby⟩:=hT.is
 have hus:=hU.und
 have hss:(⟨str.toArray⟩:ByteArray).size=str.length:=by simp [ByteArray.size]
 have hcs:Lib.strCells ⟨str.toArray⟩=bcells str:=by simp [Lib.strCells,bcells]
 obtain ⟨v',w',hr,h2,h3,h4⟩:=Lib.run_append_own_string (P:=P) w base t u ty e i hu hus hi hz hsz hby v n xs hown ⟨str.toArray⟩ (by rw [hss];simp only [maxLen];omega) (by rw [hss];omega) hbase
 rw [hss,hcs] at h2
 rw [hss] at h4
 have hext:Ext (fun b=>v.ownBlock=some b) w w':=⟨h3.os,h3.tape,h3.output,h3.size,fun j hj hn=>h3.block j hj fun he=>hn he.symm⟩
 have hrun:(Builtin.append_ #[t,u] ty #[v,sv str]).run P w=.ok v' w':=hr
 refine WL.val (v:=v') (w':=w') (by simp [execOp,resolve,invoke,builtin,hs,hx,hrun]) (h v' w' h2 hext ?_ ?_)
 ·intro b' hb'
  rcases hown.2 with ⟨rfl,rfl⟩ | ⟨g,cap,cur,rfl,hbg,hg,hnc,hcm,hcs,htake⟩
  ·by_cases hm:str.length=0
   ·have:=h4.2 ⟨rfl,hm⟩;subst this;cases hb'
   ·have hr2:=run_append_nil_string (P:=P) w t u ty e i (.int .u8 0) hu hus hi hz ⟨str.toArray⟩ (by omega) (by rw [hss];omega) (by rw [hby,hss];omega)
    rw [hr] at hr2
    cases hr2
    simp only [Value.ownBlock,Option.some.injEq] at hb'
    exact .inr (by omega)
  ·by_cases hroom:n+str.length≤cap
   ·have hcs':cur.size=cap:=by simpa using hcs
    have hr2:=Lib.run_append_room_string (P:=P) w t u ty e i hu hus hi hsz g n cap cur hg ⟨str.toArray⟩ (by rw [hss];exact hroom) (by rw [hss];omega)
    rw [hr] at hr2
    cases hr2
    exact .inl hb'
   ·have holds:∀ j u,xs[j]?=some u→w.cell? ((⟨g,0,none⟩:Addr).add j)=some u:=World.ownsRow.cells (g:=g) hown rfl
    have hr2:=Lib.run_append_grow_string (P:=P) w t u ty e i (.int .u8 0) hu hus hi hz ⟨g,0,none⟩ n cap xs (by rw [hsz];exact hown.1) holds ⟨str.toArray⟩ (by rw [hss];omega) (by rw [hss];omega) (by rw [hby,hss];exact growslice_fits (by omega) (by omega))
    rw [hr] at hr2
    cases hr2
    simp only [Value.ownBlock,Option.some.injEq] at hb'
    exact .inr (by omega)
 ·rcases hown.2 with ⟨rfl,rfl⟩ | ⟨g,cap,cur,rfl,hbg,hg,hnc,hcm,hcs,htake⟩
  ·exact .inl (hext.mono fun k _ hk=>by cases hk)
  ·by_cases hroom:n+str.length≤cap
   ·have hcs':cur.size=cap:=by simpa using hcs
    have hr2:=Lib.run_append_room_string (P:=P) w t u ty e i hu hus hi hsz g n cap cur hg ⟨str.toArray⟩ (by rw [hss];exact hroom) (by rw [hss];omega)
    rw [hr] at hr2
    cases hr2
    exact .inr rfl
   ·have holds:∀ j u,xs[j]?=some u→w.cell? ((⟨g,0,none⟩:Addr).add j)=some u:=World.ownsRow.cells (g:=g) hown rfl
    have hr2:=Lib.run_append_grow_string (P:=P) w t u ty e i (.int .u8 0) hu hus hi hz ⟨g,0,none⟩ n cap xs (by rw [hsz];exact hown.1) holds ⟨str.toArray⟩ (by rw [hss];omega) (by rw [hss];omega) (by rw [hby,hss];exact growslice_fits (by omega) (by omega))
    rw [hr] at hr2
    cases hr2
    exact .inl ⟨rfl,rfl,rfl,by simp,fun k hk _=>Below.heap_alloc _ _ _ (by simpa using hk)⟩
theorem R.fldG {x:Operand} {s:TypeId} {i off:Nat} [hT:Fld P s i off 1 false] {vs:List Value} {v:Value} (hx:ev l x=.agg vs.toArray) (hv:vs[off]?=some v):Runs P l w (.field s x i) v:=fun d ty pos af=>by
 obtain ⟨hT⟩:=hT
 unfold fldIs at hT
 split at hT
 ·rename_i fs hu
  split at hT
  ·rename_i f hf
   simp only [Bool.and_eq_true,beq_iff_eq,bne_iff_ne,ne_eq] at hT
   obtain ⟨⟨⟨h1,h2⟩,h3⟩,h4⟩:=hT
   have hag:(isAgg f.type).run P w=.ok false w:=by
    cases hd:P.underlying f.type with
    | none=>simp [hd] at h4
    | some d =>
     rw [hd] at h4
     unfold isAgg
     rw [Sem.run_bind,run_underlying hd w]
     cases d <;> simp_all [aggDesc]
   have hv':vs.toArray[f.offset]?=some v:=by rw [h1];simpa using hv
   have hv2:vs[f.offset]?=some v:=by rw [h1];exact hv
   simp [execOp,Instr.field,hx,run_underlying hu,hf,part,asAgg,hag,hv',hv2]
  ·cases hT
 ·cases hT
end
end Go.Xw
namespace Go.Xg
open Go.RowKit Go.Xw
section
variable {P:Program} {m:Nat} {Q:GPost} {fr:List GV} {Γ:List Ob} {ops:Array Oper} {rest:List Oper} {d:Option Tmp} {op:Op} {ty:TypeId} {pos:String} {af:Array Edge}
theorem YG.fldG {x:Operand} {s:TypeId} {i off:Nat} [hT:Fld P s i off 1 false] {cs:List GV} {g:GV} (hx:gev fr x=.agg cs) (hg:cs[off]?=some g):YG P (.field s x i) fr Γ g:=fun B K β w l hI hF=>by
 have h:=hF.ev x;rw [hx] at h
 generalize hv:ev l x=v at h
 cases h with
 | agg vs _ hl h =>
  have hi:off < vs.length:=by rw [hl];exact (List.getElem?_eq_some_iff.1 hg).1
  exact ⟨vs[off],R.fldG hv (by simp [hi]),h off _ g (by simp [hi]) hg⟩
abbrev brows (s:Str):List (List GV):=s.map fun c=>[.v (.int .u8 (c.toNat:Int))]
theorem GL.appS {s x:Operand} {t u e:Nat} [hT:ApB P t e] [hU:StrT P u] {i n fz:Nat} {rows:List (List GV)} {str:Str} (hx:gev fr x=.v (sv str)) (hs:gev fr s=.vec i n) (hΓ:Γ[i]?=some (.vec e 1 fz rows)) (hn:rows.length=n) (hne:str.isEmpty=false)
  (hb:n+str.length≤140737488355328)
  (h:GL P m ops Q rest (gput fr d (.vec i (n+str.length))) (oset Γ i (.vec e 1 fz (rows++brows str)))) :
  GL P m ops Q (⟨d,.call ⟨.builtin .append,#[s,x],#[t,u]⟩,ty,pos,af,none⟩::rest) fr Γ:=fun B K β w l hm hI hF=>by
 subst hn
 have hne:str≠[]:=by intro h0;rw [h0] at hne;cases hne
 obtain ⟨h0,xs,o1,o2,o3,o4,o5,o6⟩:=hI.ob i _ hΓ
 have hsr:=hF.ev s;rw [hs] at hsr
 have hsv:ev l s=h0:=by
  generalize hv:ev l s=v at hsr
  cases hsr with
  | vec _ _ a c hh =>
   obtain ⟨h',m',e1,e2,e3⟩:=hh
   rw [o1] at e1;cases e1
   exact e3 rfl
 have hfl:(brows str).flatten=str.map fun c=>GV.v (.int .u8 (c.toNat:Int)):=by
  unfold brows
  clear hx hne hb h
  generalize str=s
  induction s with
  | nil=>rfl
  | cons c r ih=>simp only [List.map_cons,List.flatten_cons,ih];rfl
 have hlen:(brows str).length=str.length:=by simp [brows]
 refine WL.appS (base:=0) (v:=h0) (n:=rows.length) (xs:=xs) (str:=str) hsv o2 (hF.evv hx) hb (Nat.zero_le _) ?_
 intro v' w' how hext hfr hor
 obtain ⟨K',hK,hβ,hI'⟩:=hI.grow hΓ o1 ⟨o2,o3⟩ (news:=brows str) (ns:=bcells str) (by rw [hlen];exact how) hext hfr (by rw [hfl];exact (by
   have:(str.map fun c=>GV.v (.int .u8 (c.toNat:Int)))=vs1 (bcells str):=by simp [vs1,bcells]
   rw [this];exact RelL.self)) (fun r hr=>by
   simp only [brows,List.mem_map] at hr
   obtain ⟨c,_,rfl⟩:=hr
   exact ⟨rfl,fun g hg=>by rw [List.mem_singleton] at hg;subst hg;rfl⟩) (by intro h0;exact hne (List.map_eq_nil_iff.1 h0)) (fun b hb' o v ho hv=>by
  rcases hor with h7 | h7
  ·exact h7.c hv (fun h=>h)
  ·have hlo:o < xs.length:=by rw [o2.1];exact Nat.lt_of_lt_of_le ho (Nat.mul_le_mul_right 1 o6)
   obtain ⟨b2,c2,he2,_,_,hc2⟩:=o2.cells.2 (by intro h0;rw [h0] at hlo;simp at hlo)
   have hb2:b2=b:=by rw [he2] at hb';cases hb';rfl
   subst hb2
   have hxo:=hc2 o xs[o] (by simp [hlo])
   rw [cell_eq,hv] at hxo;cases hxo
   obtain ⟨b3,c3,he3,_,_,hc3⟩:=how.cells.2 (by intro h0;have:xs=[]:=(List.append_eq_nil_iff.1 h0).1;rw [this] at hlo;simp at hlo)
   have hb3:b3=b2:=by rw [he3,hb'] at h7;cases h7;rfl
   subst hb3
   rw [←cell_eq];exact hc3 o _ (by rw [List.getElem?_append_left hlo];simp [hlo]))
 rw [←oset_eq] at hI'
 refine h B K' _ w' _ hm hI' ((hF.mono hK hβ).put d ?_)
 obtain ⟨a,c,rfl⟩:=how.shape
 exact .vec i _ a c ⟨_,_,setβ_same,by simp [hlen],fun _=>by simp [hlen]⟩
end
theorem GF.lib {P:Program} {f:FuncId} {vs:List Value} {v:Value} (h:∀ K β w,Tabs K β w→FzOk K w→Ret P f vs w fun x w'=>x=v∧Ext none' w w'):GF P f (vs.map GV.v) [] (.v v) []:=fun B K β w us hm hI hF=>by
 have hv:us=vs:=by
  obtain ⟨h1,h2⟩:=hF
  apply List.ext_getElem
  ·simpa using h1
  ·intro i h3 h4
   have:=h2 i us[i] (.v vs[i]) (by simp [h3]) (by simp [h4])
   exact Rel.v_inv this
 subst hv
 exact (h K β w hI.tab hI.fz).mono fun x w' ⟨h1,h2⟩=>⟨K,β,.v v,[],hI.same h2,by rw [h1];exact .v _,rfl,rfl⟩
theorem Tabs.cell {K:Fz} {β:Bt} {w:World} (h:Tabs K β w) (hf:FzOk K w) {b o:Nat} {x:Value} (hk:∀ m,KTab m b o=some (.v x)):cellH w.heap b o=some x:=by
 obtain ⟨m,h⟩:=h.le
 obtain ⟨_,v,hv,hr⟩:=hf b o _ (h b o _ (hk m))
 rw [hv,Rel.v_inv hr]
theorem Tabs.maxLen {K:Fz} {β:Bt} {w:World} (h:Tabs K β w) (hf:FzOk K w):∃ m,w.cell? ⟨0,0,none⟩=some (.int .i64 m):=by
 obtain ⟨m,h⟩:=h.le
 have hk:KTab m 0 0=some (.v (.int .i64 m)):=by simp [KTab]
 obtain ⟨_,v,hv,hr⟩:=hf _ _ _ (h _ _ _ hk)
 exact ⟨m,by rw [cell_eq,hv,Rel.v_inv hr]⟩
theorem TabB.all {K:Fz} {β:Bt} {w:World} (h:Tabs K β w) (hf:FzOk K w) {b n:Nat} {zs:List Value} (hb:TabB w b n) (hn:zs.length=n) (hk:∀ m o x,zs[o]?=some x→KTab m b o=some (.v x)):∃ E z,w.heap[b]?=some (.cells zs.toArray E z):=by
 obtain ⟨cs,E,z,h1,h2⟩:=hb
 refine ⟨E,z,?_⟩
 have:cs=zs.toArray:=by
  apply Array.ext
  ·simp [h2,hn]
  ·intro i hi hi'
   have hx:zs[i]?=some zs.toArray[i]:=by simp
   have h3:=h.cell hf (b:=b) (o:=i) (fun m=>hk m i _ hx)
   have h4:cellH w.heap b i=cs[i]?:=by rw [←cell_eq,cell_of_row w b i cs E z h1]
   rw [h4] at h3
   simpa [hi] using h3
 rw [h1,this]
theorem GF.libN {P:Program} {f:FuncId} {vs us:List Value} {E:TypeId} (h:∀ K β w,Tabs K β w→FzOk K w→Ret P f vs w fun x w'=>x=.slice (some ⟨w.heap.size,0,none⟩) us.length us.length∧w'=w.alloc (.cells us.toArray E)):GF P f (vs.map GV.v) [] (.sl 1 (us.map fun u=>[.v u])) []:=fun B K β w ws hm hI hF=>by
 have hv:ws=vs:=by
  obtain ⟨h1,h2⟩:=hF
  apply List.ext_getElem
  ·simpa using h1
  ·intro i h3 h4
   have:=h2 i ws[i] (.v vs[i]) (by simp [h3]) (by simp [h4])
   exact Rel.v_inv this
 subst hv
 refine (h K β w hI.tab hI.fz).mono fun x w' ⟨h1,h2⟩=>?_
 subst h1;subst h2
 have hn:=New.of w (.cells us.toArray E)
 obtain ⟨hle,hI'⟩:=hI.freezeNew hn (cs:=us.map .v) RelL.self (fun g hg=>by obtain ⟨u,_,rfl⟩:=List.mem_map.1 hg;rfl)
 refine ⟨_,β,.sl 1 (us.map fun u=>[.v u]),[],hI',?_,rfl,rfl⟩
 have:=Rel.sl (K:=addK K w.heap.size (us.map .v)) (β:=β) w.heap.size 0 us.length 1 (us.map fun u=>[.v u]) (fun i r hr=>?_) (by simp)
 ·rw [List.length_map] at this;exact this
 ·rw [List.getElem?_map] at hr
  cases hu:us[i]? with
  | none=>rw [hu] at hr;cases hr
  | some u =>
   rw [hu] at hr;cases hr
   refine ⟨rfl,fun j g hg=>?_⟩
   cases j with
   | zero=>cases hg;rw [Nat.zero_add,Nat.mul_one,Nat.add_zero];exact addK_at (by rw [List.getElem?_map,hu];rfl)
   | succ j=>simp at hg
end Go.Xg
namespace Go.Xg
open Go.RowKit Go.Xw
section
variable {B:Bs} {K:Fz} {β:Bt} {Γ:List Ob} {w:World}
theorem Inv.swap {i:Nat} {y:Ob} (h:Inv B K β Γ w) (ho:ObOk K β w i y):Inv B K β (oset Γ i y) w:=by
 refine ⟨h.ext,h.kle,h.ble,h.loc,h.fz,fun j x hj=>?_,fun j hj=>h.out j (by simpa [oset_eq] using hj),h.dis,h.own,h.kn,h.tab⟩
 rw [oset_eq,List.getElem?_set] at hj
 split at hj
 ·rename_i hij
  split at hj
  ·cases hj;subst hij;exact ho
  ·cases hj
 ·exact h.ob j x hj
theorem Inv.unhide {i E k:Nat} {rows:List (List GV)} {x:Value} (h:Inv B K β Γ w) (hi:Γ[i]?=some (.vech E k rows x)):Inv B K β (oset Γ i (.vec E k 0 rows)) w:=by
 obtain ⟨xs,h1,h2,h3,h4,h5⟩:=h.ob i _ hi
 exact h.swap ⟨x,xs,h1,h2,h3,h4,fun b hb=>⟨fun o _=>h5 b hb o,fun o g ho=>by omega⟩,Nat.zero_le _⟩
theorem Inv.hide {i E k:Nat} {rows:List (List GV)} (h:Inv B K β Γ w) (hi:Γ[i]?=some (.vec E k 0 rows)):∃ a c,β i=.gr (.slice a rows.length c) rows.length∧Inv B K β (oset Γ i (.vech E k rows (.slice a rows.length c))) w:=by
 obtain ⟨x,xs,h1,h2,h3,h4,h5,h6⟩:=h.ob i _ hi
 obtain ⟨a,c,rfl⟩:=h2.shape
 exact ⟨a,c,h1,h.swap ⟨xs,h1,h2,h3,h4,fun b hb o=>(h5 b hb).1 o (by omega)⟩⟩
theorem oset_get {i:Nat} {x y:Ob} (h:Γ[i]?=some x):(oset Γ i y)[i]?=some y:=by
 have:=(List.getElem?_eq_some_iff.1 h).1
 rw [oset_eq,List.getElem?_set];simp [this]
theorem oset_oset {i:Nat} {x y:Ob}:oset (oset Γ i x) i y=oset Γ i y:=by rw [oset_eq,oset_eq,oset_eq,List.set_set]
theorem Inv.gr {i E k:Nat} {rows:List (List GV)} {x:Value} (h:Inv B K β Γ w) (hi:Γ[i]?=some (.vech E k rows x)):β i=.gr x rows.length:=by
 obtain ⟨xs,h1,_⟩:=h.ob i _ hi
 exact h1
theorem Inv.shutH {i E k:Nat} {rows:List (List GV)} {x:Value} (h:Inv B K β Γ w) (hi:Γ[i]?=some (.vech E k rows x)):∃ K',KLe K K'∧Rel K' β x (.sl k rows)∧Inv B K' β (oset Γ i (.vec E k rows.length rows)) w:=by
 obtain ⟨xs,h1,h2,h3,h4,h5⟩:=h.ob i _ hi
 obtain ⟨K',hK,hfz,hI'⟩:=(h.unhide hi).snap (oset_get hi)
 rw [←oset_eq,oset_oset] at hI'
 refine ⟨K',hK,?_,hI'⟩
 rcases h2.2 with ⟨e5,e6⟩ | ⟨g,cap,cu,e5,_,_,hnc,_⟩
 ·have:rows=[]:=List.eq_nil_of_length_eq_zero e6
  subst this;subst e5
  exact .sl0 _ _ _
 ·subst e5
  refine .sl g 0 cap k rows (fun j r hr=>⟨(h4 r (List.mem_of_getElem? hr)).1,fun q g' hg'=>?_⟩) hnc
  rw [Nat.zero_add]
  exact hfz _ g h1 rfl _ g' (row_at h4 hr hg')
end
section
variable {P:Program} {m:Nat} {Q:GPost} {fr:List GV} {Γ:List Ob} {ops:Array Oper} {rest:List Oper} {d:Option Tmp} {op:Op} {ty:TypeId} {pos:String} {af:Array Edge}
theorem Wk.nilH (E k:Nat):Wk m fr Γ fr (Γ++[.vech E k [] (.slice none 0 0)]):=fun B K β w l hm hI hF=>by
 have hno:β Γ.length=.no:=hI.out _ (Nat.le_refl _)
 have hI':=hI.addV (w':=w) (E:=E) (k:=k) (x:=.slice none 0 0) (xs:=[]) (rows:=[]) (Ext.refl w) (Own.nil w 0 E k) (fun b hb=>by cases hb) RelL.nil (fun r hr=>by cases hr)
 have hle:BLe β (setβ β Γ.length (.gr (.slice none 0 0) ([]:List (List GV)).length)):=setβ_le (by rw [hno];trivial)
 refine ⟨K,_,?_,hF.mono (KLe.refl K) hle⟩
 have hb:setβ β Γ.length (.gr (.slice none 0 0) ([]:List (List GV)).length) Γ.length=.gr (.slice none 0 0) ([]:List (List GV)).length:=setβ_same
 have:=hI'.swap (i:=Γ.length) (y:=.vech E k [] (.slice none 0 0)) ⟨[],hb,Own.nil w 0 E k,RelL.nil,(fun r hr=>by cases hr),(fun b hb=>by cases hb)⟩
 rw [oset_eq] at this
 simpa using this
theorem Wk.sealH {t i E k:Nat} {rows:List (List GV)} {x:Value} (ht:gnth fr t=.v x) (hin:inL fr t=true) (hΓ:Γ[i]?=some (.vech E k rows x)):Wk m fr Γ (gupd fr t (.sl k rows)) (oset Γ i (.vec E k rows.length rows)):=fun B K β w l hm hI hF=>by
 obtain ⟨K',hK,hr,hI'⟩:=hI.shutH hΓ
 refine ⟨K',β,hI',?_⟩
 have hv:nth l t=x:=Rel.v_inv (by rw [←ht];exact hF.nth t)
 have:=(hF.mono hK (BLe.refl β)).upd t hr
 rw [←hv,upd_self (inL_of hF hin)] at this
 exact this
theorem RelL.gupd {K:Fz} {β:Bt} {x:Value} {g:GV} (hr:Rel K β x g):∀ {vs:List Value} {cs:List GV} {o:Nat},RelL K β vs cs→cs[o]?=some (.v x)→RelL K β vs (gupd cs o g):=by
 intro vs
 induction vs with
 | nil=>intro cs o h ho;have:cs=[]:=List.eq_nil_of_length_eq_zero h.1.symm;subst this;simp at ho
 | cons v vs ih =>
  intro cs o h ho
  cases cs with
  | nil=>simp at ho
  | cons c cs =>
   obtain ⟨a1,a2⟩:=h.uncons
   cases o with
   | zero=>cases ho;have hv:=Rel.v_inv a1;subst hv;exact .cons hr a2
   | succ o=>exact .cons a1 (ih a2 (by simpa using ho))
theorem Wk.sealC {i o j E k:Nat} {T:TypeId} {cs:List GV} {rows:List (List GV)} {x:Value} (hi:Γ[i]?=some (.box T cs)) (ho:cs[o]?=some (.v x)) (hij:Nat.beq i j=false) (hj:Γ[j]?=some (.vech E k rows x)):Wk m fr Γ fr (oset (oset Γ j (.vec E k rows.length rows)) i (.box T (gupd cs o (.sl k rows)))):=fun B K β w l hm hI hF=>by
 have hne:i≠j:=by intro e;subst e;simp at hij
 obtain ⟨K',hK,hr,hI'⟩:=hI.shutH hj
 obtain ⟨b,vs,h1,h2,h3,h4⟩:=hI'.ob i (.box T cs) (by rw [oset_eq,List.getElem?_set,if_neg (fun e=>hne e.symm)];exact hi)
 exact ⟨K',β,hI'.swap ⟨b,vs,h1,h2,RelL.gupd hr h3 ho,h4⟩,hF.mono hK (BLe.refl β)⟩
def rset:List (List GV)→Nat→Nat→GV→List (List GV)
 | [],_,_,_=>[]
 | r::rs,0,o,g=>gupd r o g::rs
 | r::rs,n+1,o,g=>r::rset rs n o g
theorem gupd_len:∀ (l:List GV) (o:Nat) (g:GV),(gupd l o g).length=l.length
 | [],_,_=>rfl
 | _::l,0,_=>rfl
 | _::l,o+1,g=>by simp [gupd,gupd_len l o g]
theorem gupd_app:∀ (a b:List GV) (o:Nat) (g:GV),gupd (a++b) (a.length+o) g=a++gupd b o g
 | [],b,o,g=>by simp
 | x::a,b,o,g=>by
  rw [List.cons_append,List.length_cons,show a.length+1+o=(a.length+o)+1 by omega,gupd,gupd_app a b o g];rfl
theorem gupd_app1:∀ (a b:List GV) (o:Nat) (g:GV),o < a.length→gupd (a++b) o g=gupd a o g++b
 | [],b,o,g,h=>by simp at h
 | x::a,b,0,g,h=>rfl
 | x::a,b,o+1,g,h=>by simp [gupd,gupd_app1 a b o g (by simpa using h)]
theorem gupd_mem {l:List GV} {o:Nat} {g x:GV} (h:x∈gupd l o g):x∈l∨x=g:=by
 induction l generalizing o with
 | nil=>cases h
 | cons y l ih =>
  cases o with
  | zero =>
   simp only [gupd,List.mem_cons] at h;rcases h with h | h
   ·exact .inr h
   ·exact .inl (List.mem_cons_of_mem _ h)
  | succ o =>
   simp only [gupd,List.mem_cons] at h;rcases h with h | h
   ·exact .inl (by rw [h];exact List.mem_cons_self)
   ·exact (ih h).imp (List.mem_cons_of_mem _) id
theorem rset_len:∀ (rows:List (List GV)) (i o:Nat) (g:GV),(rset rows i o g).length=rows.length
 | [],_,_,_=>rfl
 | r::rs,0,_,_=>rfl
 | r::rs,n+1,o,g=>by simp [rset,rset_len rs n o g]
theorem rset_flat {k:Nat} {o:Nat} {g:GV} (ho:o < k):∀ {rows:List (List GV)} {i:Nat},rowsOk k rows→i < rows.length→(rset rows i o g).flatten=gupd rows.flatten (i * k+o) g
 | [],_,_,h=>by simp at h
 | r::rs,0,hk,_=>by
  have:=(hk r (List.mem_cons_self)).1
  rw [rset,List.flatten_cons,List.flatten_cons,Nat.zero_mul,Nat.zero_add,gupd_app1 _ _ _ _ (by omega)]
 | r::rs,n+1,hk,h=>by
  have:=(hk r (List.mem_cons_self)).1
  rw [rset,List.flatten_cons,List.flatten_cons,rset_flat ho (fun r hr=>hk r (List.mem_cons_of_mem _ hr)) (by simpa using h),show (n+1) * k+o=r.length+(n * k+o) by rw [Nat.succ_mul];omega,gupd_app]
theorem rset_ok {k:Nat} {o:Nat} {g:GV} (hg:g.pc=true):∀ {rows:List (List GV)} {i:Nat},rowsOk k rows→rowsOk k (rset rows i o g)
 | [],_,_=>fun r hr=>by cases hr
 | r::rs,0,hk=>fun r' hr=>by
  simp only [rset,List.mem_cons] at hr
  rcases hr with rfl | hr
  ·exact ⟨by rw [gupd_len];exact (hk r List.mem_cons_self).1,fun x hx=>by
    rcases gupd_mem hx with h | h
    ·exact (hk r List.mem_cons_self).2 x h
    ·rw [h];exact hg⟩
  ·exact hk r' (List.mem_cons_of_mem _ hr)
 | r::rs,n+1,hk=>fun r' hr=>by
  simp only [rset,List.mem_cons] at hr
  rcases hr with rfl | hr
  ·exact hk _ List.mem_cons_self
  ·exact rset_ok hg (fun r hr=>hk r (List.mem_cons_of_mem _ hr)) r' hr
theorem rset_mid {a b:List (List GV)} {r:List GV} {o:Nat} {g:GV}:rset (a++r::b) a.length o g=a++gupd r o g::b:=by
 induction a with
 | nil=>rfl
 | cons x a ih=>rw [List.cons_append,List.length_cons,rset,ih];rfl
theorem Wk.sealR {i idx o j E k T k':Nat} {rows ks:List (List GV)} {x h:Value} {r:List GV} (hi:Γ[i]?=some (.vech T k rows h)) (hr:rows[idx]?=some r) (ho:r[o]?=some (.v x)) (hij:Nat.beq i j=false) (hj:Γ[j]?=some (.vech E k' ks x)) :
  Wk m fr Γ fr (oset (oset Γ j (.vec E k' ks.length ks)) i (.vech T k (rset rows idx o (.sl k' ks)) h)):=fun B K β w l hm hI hF=>by
 have hne:i≠j:=by intro e;subst e;simp at hij
 obtain ⟨K',hK,hrel,hI'⟩:=hI.shutH hj
 obtain ⟨xs,h1,h2,h3,h4,h5⟩:=hI'.ob i (.vech T k rows h) (by rw [oset_eq,List.getElem?_set,if_neg (fun e=>hne e.symm)];exact hi)
 have hlt:=(List.getElem?_eq_some_iff.1 hr).1
 have hol:o < k:=by rw [←(h4 r (List.mem_of_getElem? hr)).1];exact (List.getElem?_eq_some_iff.1 ho).1
 exact ⟨K',β,hI'.swap ⟨xs,by rw [rset_len];exact h1,by rw [rset_len];exact h2,by rw [rset_flat hol h4 hlt];exact RelL.gupd hrel h3 (row_at h4 hr ho),rset_ok rfl h4,h5⟩,hF.mono hK (BLe.refl β)⟩
theorem YG.idxH {x y:Operand} {t e:TypeId} {k:Nat} [hT:SlT P t e k] (i:Nat) {v:Value} {kk:IntKind} {j E:Nat} {rows:List (List GV)} (hx:gev fr x=.v v) (hy:gev fr y=.v (.int kk j)) (hΓ:Γ[i]?=some (.vech E k rows v)) (hj:j < rows.length):YG P (.indexAddr t x y) fr Γ (.vp i rows.length k j 0):=fun B K β w l hI hF=>by
 have hv:=hF.evv hx
 obtain ⟨xs,h1,h2,h3,h4,h5⟩:=hI.ob i _ hΓ
 rcases h2.2 with ⟨h8,h9⟩ | ⟨g,cap,cur,h8,_,hg,_⟩
 ·omega
 ·subst h8
  exact ⟨_,R.idxA hv (hF.evv hy) hj,.vp i _ k j 0 _ ⟨_,_,h1,Nat.le_refl _,fun _=>⟨g,rfl,by simp⟩⟩⟩
theorem YG.fldH {x:Operand} {s:TypeId} {f off k:Nat} {agg:Bool} [hT:Fld P s f off k agg] {i n k' idx o E:Nat} {rows:List (List GV)} {v:Value} (hx:gev fr x=.vp i n k' idx o) (hΓ:Γ[i]?=some (.vech E k' rows v)) (hn:rows.length=n):YG P (.fieldAddr s x f) fr Γ (.vp i n k' idx (o+off)):=fun B K β w l hI hF=>by
 have h:=hF.ev x;rw [hx] at h
 generalize hv:ev l x=u at h
 cases h with
 | vp _ _ _ _ _ _ h =>
  obtain ⟨h0,m,h1,h2,h3⟩:=h
  rw [hI.gr hΓ] at h1;cases h1
  obtain ⟨b,hb,rfl⟩:=h3 hn
  exact ⟨_,R.fldA hv,.vp i n k' idx _ _ ⟨_,_,hI.gr hΓ,h2,fun _=>⟨b,hb,by rw [Nat.add_assoc]⟩⟩⟩
theorem YG.ldH {x:Operand} {t:TypeId} [hT:Ty P t false 1] {i n k idx o E:Nat} {rows:List (List GV)} {v:Value} {r:List GV} {g:GV} (hx:gev fr x=.vp i n k idx o) (hΓ:Γ[i]?=some (.vech E k rows v)) (hn:rows.length=n) (hr:rows[idx]?=some r) (hg:r[o]?=some g):YG P (.load t x) fr Γ g:=fun B K β w l hI hF=>by
 have h:=hF.ev x;rw [hx] at h
 generalize hv:ev l x=u at h
 cases h with
 | vp _ _ _ _ _ _ h =>
  obtain ⟨h0,m,h1,h2,h3⟩:=h
  obtain ⟨xs,h4,h5,h6,h7,_⟩:=hI.ob i _ hΓ
  rw [h1] at h4;cases h4
  obtain ⟨b,hb,rfl⟩:=h3 hn
  obtain ⟨u,hu,hrel⟩:=h6.at (row_at h7 hr hg)
  obtain ⟨b2,c,he,_,_,hc⟩:=h5.cells.2 (by intro h0;rw [h0] at hu;simp at hu)
  subst he;cases hb
  exact ⟨u,R.ld hv (by rw [←cell_eq];exact hc _ _ hu),hrel⟩
theorem upd_take {v:Value}:∀ (l:List Value) (n o:Nat),o < n→(upd l o v).take n=upd (l.take n) o v
 | [],n,o,h=>by simp [upd]
 | x::l,0,o,h=>by omega
 | x::l,n+1,0,h=>by simp [upd]
 | x::l,n+1,o+1,h=>by simp [upd,upd_take l n o (by omega)]
theorem upd_length {v:Value}:∀ (l:List Value) (o:Nat),(upd l o v).length=l.length
 | [],o=>rfl
 | x::l,0=>rfl
 | x::l,o+1=>by simp [upd,upd_length l o]
theorem GL.stH {x y:Operand} {t:TypeId} [hT:Ty P t false 1] {i n k idx o E:Nat} {rows:List (List GV)} {v:Value} {r:List GV} {g:GV} (hx:gev fr x=.vp i n k idx o) (hΓ:Γ[i]?=some (.vech E k rows v)) (hn:rows.length=n) (hr:rows[idx]?=some r) (hol:Nat.blt o r.length=true)
  (hy:gcells (gev fr y)=some [g]) (h1:g.one=true) (hp:g.pc=true) (h:GL P m ops Q rest (gput fr d (.v undef)) (oset Γ i (.vech E k (rset rows idx o g) v))):GL P m ops Q (⟨d,.store t x y,ty,pos,af,none⟩::rest) fr Γ:=fun B K β w l hm hI hF=>by
 have hrr:=hF.ev x;rw [hx] at hrr
 generalize hv:ev l x=u at hrr
 cases hrr with
 | vp _ _ _ _ _ _ hh =>
  obtain ⟨h0,mm,e1,e2,e3⟩:=hh
  obtain ⟨xs,h4,h5,h6,h7,h8⟩:=hI.ob i _ hΓ
  rw [e1] at h4;cases h4
  obtain ⟨b,hb,rfl⟩:=e3 hn
  have hlt:=(List.getElem?_eq_some_iff.1 hr).1
  have hol':o < k:=by rw [←(h7 r (List.mem_of_getElem? hr)).1];simpa using hol
  obtain ⟨us,hu1,hu2⟩:=(hF.ev y).cells hy
  obtain ⟨u1,rfl⟩:∃ u1,us=[u1]:=by
   have:=hu2.1
   match us,this with
   | [u1],_=>exact ⟨u1,rfl⟩
  have hu3:Rel K β u1 g:=hu2.2 0 u1 g rfl rfl
  have hq:idx * k+o < rows.length * k:=by
   have:(idx+1) * k≤rows.length * k:=Nat.mul_le_mul_right k hlt
   rw [Nat.succ_mul] at this;omega
  rcases h5.2 with ⟨e5,e6⟩ | ⟨g0,cap,cur,e5,ebase,hg,hnc,hcm,hsz,htk⟩
  ·omega
  ·subst e5
   simp only [Value.ownBlock,Option.some.injEq] at hb;subst hb
   have hcap:rows.length * k≤cap * k:=Nat.mul_le_mul_right k hnc
   refine WL.st (t:=t) (k:=1) hv rfl hg (by rw [hu1];rfl) (by omega) (by rw [hu1];have:=(oneV_cells (hu3.one h1)).2;simpa [Xw.ones] using this) fun w' hs=>?_
   rw [hu1] at hs
   have hcs:setL cur (idx * k+o) ([u1]:List Value)=(upd cur.toList (idx * k+o) u1).toArray:=by
    simp only [setL];rw [←upd_eq]
   simp only [List.toList_toArray,hcs] at hs
   have hflat:rows.flatten.length=rows.length * k:=by rw [←h6.1];exact h5.1
   have how:Own w' 0 E k (.slice (some ⟨g0,0,none⟩) rows.length cap) rows.length (upd xs (idx * k+o) u1) :=
    ⟨by rw [upd_length];exact h5.1,.inr ⟨g0,cap,_,rfl,ebase,hs.blk,hnc,hcm,by simp [upd_length,hsz],by rw [List.toList_toArray,upd_take _ _ _ hq,htk]⟩⟩
   have hrel:RelL K β (upd xs (idx * k+o) u1) (gupd rows.flatten (idx * k+o) g):=by
    have gen:∀ (vs:List Value) (cs:List GV) (q:Nat),RelL K β vs cs→RelL K β (upd vs q u1) (gupd cs q g):=by
     intro vs
     induction vs with
     | nil=>intro cs q h;have:cs=[]:=List.eq_nil_of_length_eq_zero h.1.symm;subst this;exact h
     | cons v vs ih =>
      intro cs q h
      cases cs with
      | nil=>have:=h.1;simp at this
      | cons c cs =>
       obtain ⟨a1,a2⟩:=h.uncons
       cases q with
       | zero=>exact .cons hu3 a2
       | succ q=>exact .cons a1 (ih cs q a2)
    exact gen _ _ _ h6
   have hbk:(β i).blk=some g0:=by rw [e1];rfl
   have hI':Inv B K β (oset Γ i (.vech E k (rset rows idx o g) (.slice (some ⟨g0,0,none⟩) rows.length cap))) w':=by
    refine ⟨hI.ext.step hs.ext (fun j hj=>?_),hI.kle,hI.ble,hI.loc,hI.fz.ext hs.ext (fun b' o' g' hg' he=>?_),fun j y hj=>?_,fun j hj=>hI.out j (by simpa [oset_eq] using hj),hI.dis,hI.own,hI.kn,hI.tab.step hs.ext (fun j hj=>⟨i,by subst hj;exact hbk⟩) (KLe.refl K) (fun i b2 h=>.inl ⟨i,h⟩)⟩
    ·subst hj;exact (hI.own i _ hbk).symm
    ·subst he;rw [h8 _ rfl] at hg';cases hg'
    ·rw [oset_eq,List.getElem?_set] at hj
     split at hj
     ·rename_i hij
      split at hj
      ·cases hj;subst hij
       exact ⟨_,by rw [rset_len];exact e1,by rw [rset_len];exact how,by rw [rset_flat hol' h7 hlt];exact hrel,rset_ok hp h7,h8⟩
      ·cases hj
     ·rename_i hij
      refine (hI.ob j y hj).ext hs.ext (fun b' hb' he=>?_) (KLe.refl K) (BLe.refl β) rfl (fun _ _ _ h=>h)
      subst he
      exact hij (hI.dis i j _ hbk hb')
   exact h B K β w' _ hm hI' (hF.put d (.v _))
theorem GL.pushH {x:Operand} {ts:Tmp} {t e k by':Nat} {z:List Value} [hT:ApT P t e k by'] [hZ:SlZ P t e k z] {d1 dt:Tmp} {ty1:TypeId} {pos1:String} {af1:Array Edge} (i:Nat) {n:Nat} {rows:List (List GV)} {gs:List GV} {v:Value}
  (hx:gcells (gev fr x)=some gs) (hk:Nat.beq gs.length k=true) (h1:ones1 gs=true) (hp:pcs gs=true) (hs:gnth fr ts=.v v) (hsd:Nat.beq ts d1=false) (hd:inL fr d1=true) (hΓ:Γ[i]?=some (.vech e k rows v)) (hn:rows.length=n)
  (hb:(n+1≤9223372036854775807∧(n+1) * by'≤140737488355328)∧k≤16777216)
  (h:∀ a c,GL P m ops Q rest (gput (gput fr (some d1) .any) (some dt) (.v (.slice a (n+1) c))) (oset Γ i (.vech e k (rows++[gs]) (.slice a (n+1) c)))) :
  GL P m ops Q (⟨some d1,.buildSlice t 1 #[(0,x)],ty1,pos1,af1,none⟩::⟨some dt,.call ⟨.builtin .append,#[.tmp ts,.tmp d1],#[t,t]⟩,ty,pos,af,none⟩::rest) fr Γ:=fun B K β w l hm hI hF=>by
 subst hn
 obtain ⟨us,hu1,hu2⟩:=(hF.ev x).cells hx
 obtain ⟨xs,o1,o2,o3,o4,o5⟩:=hI.ob i _ hΓ
 have hsv:nth l ts=v:=Rel.v_inv (by rw [←hs];exact hF.nth ts)
 have hd':=inL_of hF hd
 have hne1:ts≠d1:=by intro e;subst e;simp at hsd
 have hk':gs.length=k:=by simpa using hk
 refine WL.push (base:=0) (v:=v) (vs:=us) (val:=ev l x) (xs:=xs) (n:=rows.length) rfl (fun u=>by rw [show ev (put l (some d1) u) (.tmp ts)=nth (upd l d1 u) ts from rfl,nth_upd_ne hne1];exact hsv) (fun u=>nth_upd hd' u) hu1 (by rw [hu2.1,hk']) (hu2.ones h1) o2 hb.1.1 hb.1.2 hb.2 (Nat.zero_le _) ?_
 intro u v' w' how hext hfr hor
 obtain ⟨K',hK,hβ,hI'⟩:=(hI.unhide hΓ).grow (fz:=0) (oset_get hΓ) o1 ⟨o2,o3⟩ (news:=[gs]) (ns:=us) how hext hfr (by simpa using hu2) (fun r hr=>by simp at hr;subst hr;exact ⟨hk',pcs_mem hp⟩) (by simp) (fun b hb' o v ho hv=>by omega)
 rw [←oset_eq,oset_oset] at hI'
 obtain ⟨a,c,hbβ,hI2⟩:=hI'.hide (oset_get hΓ)
 rw [oset_oset] at hI2
 obtain ⟨a',c',rfl⟩:=how.shape
 rw [setβ_same] at hbβ
 simp only [List.length_append,List.length_cons,List.length_nil] at hbβ hI2 hβ
 cases hbβ
 exact h _ _ B K' _ w' _ hm hI2 (((hF.mono hK hβ).put (some d1) (.any u)).put (some dt) (.v _))
theorem GL.appH {s x:Operand} {t e k by':Nat} [hT:ApT P t e k by'] (i:Nat) {n:Nat} {dt:Tmp} {v:Value} {rows news:List (List GV)} (hx:gev fr x=.sl k news) (hs:gev fr s=.v v) (hΓ:Γ[i]?=some (.vech e k rows v)) (hn:rows.length=n) (h1:onesR news=true) (hne:news.isEmpty=false)
  (hb:n+news.length≤9223372036854775807∧(n+news.length) * by'≤140737488355328)
  (h:∀ a c,GL P m ops Q rest (gput fr (some dt) (.v (.slice a (n+news.length) c))) (oset Γ i (.vech e k (rows++news) (.slice a (n+news.length) c)))) :
  GL P m ops Q (⟨some dt,.call ⟨.builtin .append,#[s,x],#[t,t]⟩,ty,pos,af,none⟩::rest) fr Γ:=fun B K β w l hm hI hF=>by
 subst hn
 have hne:news≠[]:=by intro h0;rw [h0] at hne;cases hne
 obtain ⟨xs,o1,o2,o3,o4,o5⟩:=hI.ob i _ hΓ
 have hsv:ev l s=v:=hF.evv hs
 have hxr:=hF.ev x;rw [hx] at hxr
 generalize hxv:ev l x=vx at hxr
 cases hxr with
 | sl0 a c k=>exact absurd rfl hne
 | sl b o c _ _ hr _ =>
  have hrows:rowsOk k news:=fun r hr'=>by
   obtain ⟨j,hj⟩:=List.mem_iff_getElem?.1 hr'
   refine ⟨(hr j r hj).1,fun g hg=>?_⟩
   obtain ⟨q,hq⟩:=List.mem_iff_getElem?.1 hg
   exact (hI.fz _ _ _ ((hr j r hj).2 q g hq)).1
  have hflat:∀ (rows:List (List GV)) (o:Nat),(∀ (j:Nat) r,rows[j]?=some r→r.length=k∧∀ (q:Nat) g,r[q]?=some g→K b (o+j * k+q)=some g)→∀ (q:Nat) g,rows.flatten[q]?=some g→K b (o+q)=some g:=by
   intro rows
   induction rows with
   | nil=>intro o _ q g hg;simp at hg
   | cons r rows ih =>
    intro o h q g hg
    rw [List.flatten_cons] at hg
    have hl:=(h 0 r rfl).1
    by_cases hq:q < r.length
    ·rw [List.getElem?_append_left hq] at hg
     have:=(h 0 r rfl).2 q g hg
     simpa using this
    ·rw [List.getElem?_append_right (by omega),hl] at hg
     have:=ih (o+k) (fun j r' hj=>by
      have:=h (j+1) r' (by simpa using hj)
      refine ⟨this.1,fun q g hg=>?_⟩
      have:=this.2 q g hg
      rw [show o+(j+1) * k+q=o+k+j * k+q by rw [Nat.succ_mul];omega] at this;exact this) (q - k) g hg
     rw [show o+k+(q - k)=o+q by omega] at this;exact this
  obtain ⟨us,hu1,hu2⟩:=cells_of (K:=K) (β:=β) (H:=w.heap) (b:=b) news.flatten o (fun j g hj=>by
   obtain ⟨hp,u,hu,hrel⟩:=hI.fz _ _ _ (hflat news o (fun j r hj=>hr j r hj) j g hj)
   exact ⟨u,hu,hrel.pc hp⟩)
  have hul:us.length=news.length * k:=by
   rw [hu1.1,List.length_flatten]
   have:∀ (rows:List (List GV)),rowsOk k rows→(rows.map List.length).sum=rows.length * k:=by
    intro rows
    induction rows with
    | nil=>intro _;simp
    | cons r rows ih =>
     intro hk
     rw [List.map_cons,List.sum_cons,ih (fun r hr=>hk r (List.mem_cons_of_mem _ hr)),(hk r (List.mem_cons_self)).1,List.length_cons,Nat.succ_mul];omega
   exact this news hrows
  refine WL.app (base:=0) (v:=v) (n:=rows.length) (m:=news.length) (xs:=xs) (news:=us) hsv o2 hxv hul (fun j u hj=>by rw [cell_eq];exact hu2 j u hj) (hu1.ones (onesR_flat h1)) hb.1 hb.2 (Nat.zero_le _) ?_
  intro v' w' how hext hfr hor
  obtain ⟨K',hK,hβ,hI'⟩:=(hI.unhide hΓ).grow (fz:=0) (oset_get hΓ) o1 ⟨o2,o3⟩ (news:=news) (ns:=us) how hext hfr hu1 hrows hne (fun b hb' o v ho hv=>by omega)
  rw [←oset_eq,oset_oset] at hI'
  obtain ⟨a,c,hbβ,hI2⟩:=hI'.hide (oset_get hΓ)
  rw [oset_oset] at hI2
  obtain ⟨a',c',rfl⟩:=how.shape
  rw [setβ_same] at hbβ
  simp only [List.length_append] at hbβ hI2 hβ
  cases hbβ
  exact h _ _ B K' _ w' _ hm hI2 ((hF.mono hK hβ).put (some dt) (.v _))
end
end Go.Xg
namespace Go.Xg
open Go.RowKit Go.Xw
theorem setR_take:∀ (us vs:List Value) (o n:Nat),o+us.length≤n→(setR vs o us).take n=setR (vs.take n) o us
 | [],vs,o,n,_=>rfl
 | u::us,vs,o,n,h=>by
  rw [List.length_cons] at h
  rw [setR,setR,setR_take us _ _ _ (by omega),upd_take _ _ _ (by omega)]
theorem gsetR_app (a:List GV):∀ (gs b:List GV) (o:Nat),gsetR (a++b) (a.length+o) gs=a++gsetR b o gs
 | [],b,o=>rfl
 | g::gs,b,o=>by rw [gsetR,gsetR,gupd_app,Nat.add_assoc,gsetR_app a gs]
theorem gsetR_over:∀ (gs a b:List GV),a.length=gs.length→gsetR (a++b) 0 gs=gs++b
 | [],[],b,_=>rfl
 | [],x::a,b,h=>by simp at h
 | g::gs,[],b,h=>by simp at h
 | g::gs,x::a,b,h=>by
  rw [gsetR,List.cons_append,gupd]
  have:=gsetR_app [g] gs (a++b) 0
  simp only [List.length_cons,List.length_nil,List.cons_append,List.nil_append,Nat.zero_add,Nat.add_zero] at this ⊢
  rw [this,gsetR_over gs a b (by simpa using h)]
theorem rows_set {k:Nat} {gs:List GV} (hg:gs.length=k):∀ {rows:List (List GV)} {i:Nat},rowsOk k rows→i < rows.length→gsetR rows.flatten (i * k) gs=(rows.set i gs).flatten
 | [],_,_,h=>by simp at h
 | r::rs,0,hk,_=>by
  rw [List.flatten_cons,List.set_cons_zero,List.flatten_cons,Nat.zero_mul,gsetR_over gs r _ (by rw [hg];exact (hk r List.mem_cons_self).1)]
 | r::rs,n+1,hk,h=>by
  have hr:=(hk r List.mem_cons_self).1
  rw [List.flatten_cons,List.set_cons_succ,List.flatten_cons,←rows_set hg (fun r hr=>hk r (List.mem_cons_of_mem _ hr)) (by simpa using h),show (n+1) * k=r.length+n * k by rw [Nat.succ_mul];omega,gsetR_app]
theorem rows_setOk {k:Nat} {gs:List GV} (hg:gs.length=k) (hp:pcs gs=true) {rows:List (List GV)} {i:Nat} (h:rowsOk k rows):rowsOk k (rows.set i gs):=fun r hr=>by
 rcases List.mem_or_eq_of_mem_set hr with hr | rfl
 ·exact h r hr
 ·exact ⟨hg,pcs_mem hp⟩
section
variable {P:Program} {m:Nat} {ops:Array Oper} {Q:GPost} {rest:List Oper} {fr:List GV} {Γ:List Ob} {d:Option Tmp} {ty:TypeId} {pos:String} {af:Array Edge}
theorem GL.stHN {x y:Operand} {t:TypeId} {agg:Bool} {k:Nat} [hT:Ty P t agg k] {i n idx E:Nat} {rows:List (List GV)} {v:Value} {gs:List GV} (hx:gev fr x=.vp i n k idx 0) (hΓ:Γ[i]?=some (.vech E k rows v)) (hn:rows.length=n) (hlt:idx < rows.length)
  (hy:gcells (gev fr y)=some gs) (hk:Nat.beq gs.length k=true) (h1:ones1 gs=true) (hp:pcs gs=true) (h:GL P m ops Q rest (gput fr d (.v undef)) (oset Γ i (.vech E k (rows.set idx gs) v))):GL P m ops Q (⟨d,.store t x y,ty,pos,af,none⟩::rest) fr Γ:=fun B K β w l hm hI hF=>by
 have hk:gs.length=k:=by simpa using hk
 have hrr:=hF.ev x;rw [hx] at hrr
 generalize hv:ev l x=u at hrr
 cases hrr with
 | vp _ _ _ _ _ _ hh =>
  obtain ⟨h0,mm,e1,e2,e3⟩:=hh
  obtain ⟨xs,h4,h5,h6,h7,h8⟩:=hI.ob i _ hΓ
  rw [e1] at h4;cases h4
  obtain ⟨b,hb,rfl⟩:=e3 hn
  obtain ⟨us,hu1,hu2⟩:=(hF.ev y).cells hy
  have hul:us.length=k:=by rw [hu2.1,hk]
  have hq:idx * k+k≤rows.length * k:=by
   have:(idx+1) * k≤rows.length * k:=Nat.mul_le_mul_right k hlt
   rw [Nat.succ_mul] at this;omega
  rcases h5.2 with ⟨e5,e6⟩ | ⟨g0,cap,cur,e5,ebase,hg,hnc,hcm,hsz,htk⟩
  ·omega
  ·subst e5
   simp only [Value.ownBlock,Option.some.injEq] at hb;subst hb
   have hcap:rows.length * k≤cap * k:=Nat.mul_le_mul_right k hnc
   refine WL.st (t:=t) (k:=k) hv rfl hg (by rw [hu1];simpa using hul) (by rw [Nat.add_zero];omega) (by rw [hu1];simpa using hu2.ones h1) fun w' hs=>?_
   rw [hu1,List.toList_toArray,Nat.add_zero] at hs
   obtain ⟨cur⟩:=cur
   rw [setL_setR] at hs
   simp only [List.size_toArray,List.toList_toArray] at hsz htk
   have how:Own w' 0 E k (.slice (some ⟨g0,0,none⟩) rows.length cap) rows.length (setR xs (idx * k) us) :=
    ⟨by rw [setR_len];exact h5.1,.inr ⟨g0,cap,_,rfl,ebase,hs.blk,hnc,hcm,by simp [setR_len,hsz],by rw [List.toList_toArray,setR_take _ _ _ _ (by omega),htk]⟩⟩
   have hrel:RelL K β (setR xs (idx * k) us) (gsetR rows.flatten (idx * k) gs):=hu2.setR _ h6
   rw [rows_set hk h7 hlt] at hrel
   have hbk:(β i).blk=some g0:=by rw [e1];rfl
   have hI':Inv B K β (oset Γ i (.vech E k (rows.set idx gs) (.slice (some ⟨g0,0,none⟩) rows.length cap))) w':=by
    refine ⟨hI.ext.step hs.ext (fun j hj=>?_),hI.kle,hI.ble,hI.loc,hI.fz.ext hs.ext (fun b' o' g' hg' he=>?_),fun j y hj=>?_,fun j hj=>hI.out j (by simpa [oset_eq] using hj),hI.dis,hI.own,hI.kn,hI.tab.step hs.ext (fun j hj=>⟨i,by subst hj;exact hbk⟩) (KLe.refl K) (fun i b2 h=>.inl ⟨i,h⟩)⟩
    ·subst hj;exact (hI.own i _ hbk).symm
    ·subst he;rw [h8 _ rfl] at hg';cases hg'
    ·rw [oset_eq,List.getElem?_set] at hj
     split at hj
     ·rename_i hij
      split at hj
      ·cases hj;subst hij
       exact ⟨_,by rw [List.length_set];exact e1,by rw [List.length_set];exact how,hrel,rows_setOk hk hp h7,h8⟩
      ·cases hj
     ·rename_i hij
      refine (hI.ob j y hj).ext hs.ext (fun b' hb' he=>?_) (KLe.refl K) (BLe.refl β) rfl (fun _ _ _ h=>h)
      subst he
      exact hij (hI.dis i j _ hbk hb')
   exact h B K β w' _ hm hI' (hF.put d (.v _))
theorem zs_rows (n:Nat) (z:List Value):(List.replicate n (vs1 z)).flatten=zs n z:=by
 induction n with
 | zero=>rfl
 | succ n ih=>rw [List.replicate_succ,List.flatten_cons,ih,zs]
theorem GL.mkN {x:Operand} {t e k by':Nat} {z:List Value} [hT:ApT P t e k by'] [hZ:SlZ P t e k z] {dt:Tmp} {n:Nat} (hx:gev fr x=.v (ii (n:Nat))) (hb:n≤1099511627776∧by' * n≤281474976710656)
  (h:∀ a c,GL P m ops Q rest (gput fr (some dt) (.v (.slice a n c))) (Γ++[.vech e k (List.replicate n (vs1 z)) (.slice a n c)])) :
  GL P m ops Q (⟨some dt,.makeSlice t x x,ty,pos,af,none⟩::rest) fr Γ:=fun B K β w l hm hI hF=>by
 obtain ⟨hu,⟨i,z0,hi,hz,hzs,hsz,hby⟩,hk⟩:=hT.parts
 have hxv:ev l x=ii (n:Nat):=hF.evv hx
 obtain ⟨w',hr,h2,h3⟩:=run_make_full (P:=P) (w:=w) 0 t e i z0 k hu hi hz hsz .i64 .i64 n (by rw [hby];exact hb.2) (by simp only [maxLen];omega) (Nat.zero_le _)
 have hz0:z0.cells.toList=z:=by
  have h4:=hZ.zero
  rw [hi] at h4
  simp only [Option.bind_some,hz,Option.some.injEq] at h4
  have hl:=hZ.zl
  by_cases h1:k=1
  ·rw [if_pos h1] at h4
   rw [h4,hZ.one h1]
   subst h1
   match z,hl with
   | [a],_=>rfl
  ·rw [if_neg h1] at h4
   rw [h4];rfl
 have hcells:(madeCells z0.cells (n * k)).toList=(List.range (n * k)).map fun j=>z.getD (j % k) undef:=by
  unfold madeCells
  rw [Array.toList_map,Array.toList_range]
  apply List.map_congr_left
  intro j _
  have hlt:j % k < z0.cells.size:=by rw [hzs];exact Nat.mod_lt _ hk
  rw [hzs,getElem!_pos z0.cells (j % k) hlt,←hz0,List.getD_eq_getElem?_getD,Array.getElem?_toList,Array.getElem?_eq_getElem hlt]
  rfl
 rw [hcells] at h2
 have hrel:=zs_rel (K:=K) (β:=β) (n:=n) hZ.zl hZ.pos
 rw [←zs_rows] at hrel
 have hok:rowsOk k (List.replicate n (vs1 z)):=fun r hr=>by
  have:=List.eq_of_mem_replicate hr
  subst this
  refine ⟨by rw [←hZ.zl];simp [vs1],fun g hg=>?_⟩
  unfold vs1 at hg
  obtain ⟨v,_,rfl⟩:=List.mem_map.1 hg
  rfl
 have hext:Ext none' w w':=⟨h3.os,h3.tape,h3.output,h3.size,fun j hj _=>h3.block j hj (by simp)⟩
 have hI':=hI.addV (x:=.slice (some ⟨w.heap.size,0,none⟩) n n) (rows:=List.replicate n (vs1 z)) hext (by rw [List.length_replicate];exact h2) (fun b hb=>by cases hb;exact Nat.le_refl _) hrel hok
 have hget:(Γ++[Ob.vec e k 0 (List.replicate n (vs1 z))])[Γ.length]?=some (Ob.vec e k 0 (List.replicate n (vs1 z))):=by simp
 obtain ⟨a,c,hbβ,hI2⟩:=hI'.hide hget
 rw [setβ_same] at hbβ
 injection hbβ with hb1 hb2
 injection hb1 with hb3 hb4 hb5
 subst hb3 hb5
 have hos:oset (Γ++[.vec e k 0 (List.replicate n (vs1 z))]) Γ.length (.vech e k (List.replicate n (vs1 z)) (.slice (some ⟨w.heap.size,0,none⟩) (List.replicate n (vs1 z)).length n))=Γ++[.vech e k (List.replicate n (vs1 z)) (.slice (some ⟨w.heap.size,0,none⟩) (List.replicate n (vs1 z)).length n)]:=by
  rw [oset_eq];simp
 rw [hos,List.length_replicate] at hI2
 refine WL.val (v:=.slice (some ⟨w.heap.size,0,none⟩) n n) (w':=w') (by simp [execOp,hxv,hr]) ?_
 exact h _ _ B K _ w' _ hm hI2 ((hF.mono (KLe.refl K) (setβ_le (by rw [hI.out _ (Nat.le_refl _)];trivial))).put (some dt) (.v _))
end
end Go.Xg
set_option maxHeartbeats 2000000
namespace Go.Xg
open Go.RowKit Go.Xw Go.Proofs
open Go.Xp (Nd Ar)
open Go.Sp (Src)
open Go.Im (wS wSrc sumL sumL_take szR szR_ok szR_no sumL_succ sumL_snoc sumL_mem)
open Go.Im (fill_set fill_len fill_all)
attribute [local irreducible] GW GL GO YG GC GA gthn ginb
theorem toIntS_g (l:List Int) (hl:l.length≤1048576):GF Tryz.prog 146 [ints l] [] (ints l) []:=by
 have hm:(l.map (fun i=>[GV.v (ii i)])).length=l.length:=by simp
 refine GC.enter Tryz.func146 Tryz.ntmps146 rfl (by simp only [gframe,grep,Nat.reduceSub];rfl) ?_
 refine w_grun ?_
 refine GL.mkN rfl ⟨by omega,by omega⟩ ?_;intro a c;refine w_gnmb ?_
 refine w_grun ?_
 refine GW.loop (fun k:Nat=>l.length - k) (fun k fr Γ=>∃ R Z,fr=[ints l,.any,.any,.v (.slice a (l.map (fun i=>[GV.v (ii i)])).length c),.v (ii (k:Nat)),.any,.any,.any,.any,.any,.any,.any,.any,.any,.any,.any,.any,.any,.any,.any,.any,.any]∧Γ=[.vech 3 1 R (.slice a (l.map (fun i=>[GV.v (ii i)])).length c)]∧k≤l.length∧R=(l.take k).map (fun i=>[GV.v (ii i)])++List.replicate (l.length - k) Z) 0 ?_ ?_
 ·exact ⟨_,_,Wk.frm w_wkf,_,_,rfl,rfl,Nat.zero_le _,by rw [hm];rfl⟩
 rintro k _ _ ⟨R,Z,rfl,rfl,hk,hR⟩
 have hRl:R.length=l.length:=by rw [hR];exact fill_len hk
 have hRn:R.length=(l.map (fun i=>[GV.v (ii i)])).length:=by rw [hm];exact hRl
 by_cases hlt:k < l.length
 ·have hx:l[k]?=some l[k]:=by simp [hlt]
  have hr:(l.map (fun i=>[GV.v (ii i)]))[k]?=some ([GV.v (ii l[k])]):=by rw [List.getElem?_map,hx];rfl
  have hd2:decide ((k:Int) < ((l.map (fun i=>[GV.v (ii i)])).length:Int))=true:=by rw [hm];simpa using hlt
  have hset:=fill_set (f:=(fun i=>[GV.v (ii i)])) (Z:=Z) hx
  rw [←hR] at hset
  clear hR
  generalize l[k]=x at *
  refine w_grun ?_
  refine w_gsthn ?_
  refine w_grun ?_
  exact ⟨k+1,⟨_,_,Wk.frm w_wkf,_,Z,rfl,rfl,hlt,hset⟩,by show l.length - (k+1) < l.length - k;omega⟩
 ·have hd2:decide ((k:Int) < ((l.map (fun i=>[GV.v (ii i)])).length:Int))=false:=by rw [hm];simpa using hlt
  have hke:k=l.length:=by omega
  subst hke
  rw [fill_all] at hR
  subst hR
  refine w_grun ?_
  refine w_gexit ?_
  refine GW.wk (by apply Wk.sealH (t:=3) (i:=0) <;> rfl) ?_
  simp only [oset,gupd]
  refine w_grun ?_
  refine w_gret ?_
  exact ⟨rfl,rfl⟩
theorem toStringS_g (l:List Str) (hl:l.length≤1048576):GF Tryz.prog 48 [strs l] [] (strs l) []:=by
 have hm:(l.map (fun s=>[GV.v (sv s)])).length=l.length:=by simp
 refine GC.enter Tryz.func48 Tryz.ntmps48 rfl (by simp only [gframe,grep,Nat.reduceSub];rfl) ?_
 refine w_grun ?_
 refine GL.mkN rfl ⟨by omega,by omega⟩ ?_;intro a c;refine w_gnmb ?_
 refine w_grun ?_
 refine GW.loop (fun k:Nat=>l.length - k) (fun k fr Γ=>∃ R Z,fr=[strs l,.any,.any,.v (.slice a (l.map (fun s=>[GV.v (sv s)])).length c),.v (ii (k:Nat)),.any,.any,.any,.any,.any,.any,.any,.any,.any,.any,.any,.any,.any,.any,.any,.any,.any]∧Γ=[.vech 9 1 R (.slice a (l.map (fun s=>[GV.v (sv s)])).length c)]∧k≤l.length∧R=(l.take k).map (fun s=>[GV.v (sv s)])++List.replicate (l.length - k) Z) 0 ?_ ?_
 ·exact ⟨_,_,Wk.frm w_wkf,_,_,rfl,rfl,Nat.zero_le _,by rw [hm];rfl⟩
 rintro k _ _ ⟨R,Z,rfl,rfl,hk,hR⟩
 have hRl:R.length=l.length:=by rw [hR];exact fill_len hk
 have hRn:R.length=(l.map (fun s=>[GV.v (sv s)])).length:=by rw [hm];exact hRl
 by_cases hlt:k < l.length
 ·have hx:l[k]?=some l[k]:=by simp [hlt]
  have hr:(l.map (fun s=>[GV.v (sv s)]))[k]?=some ([GV.v (sv l[k])]):=by rw [List.getElem?_map,hx];rfl
  have hd2:decide ((k:Int) < ((l.map (fun s=>[GV.v (sv s)])).length:Int))=true:=by rw [hm];simpa using hlt
  have hset:=fill_set (f:=(fun s=>[GV.v (sv s)])) (Z:=Z) hx
  rw [←hR] at hset
  clear hR
  generalize l[k]=x at *
  refine w_grun ?_
  refine w_gsthn ?_
  refine w_grun ?_
  exact ⟨k+1,⟨_,_,Wk.frm w_wkf,_,Z,rfl,rfl,hlt,hset⟩,by show l.length - (k+1) < l.length - k;omega⟩
 ·have hd2:decide ((k:Int) < ((l.map (fun s=>[GV.v (sv s)])).length:Int))=false:=by rw [hm];simpa using hlt
  have hke:k=l.length:=by omega
  subst hke
  rw [fill_all] at hR
  subst hR
  refine w_grun ?_
  refine w_gexit ?_
  refine GW.wk (by apply Wk.sealH (t:=3) (i:=0) <;> rfl) ?_
  simp only [oset,gupd]
  refine w_grun ?_
  refine w_gret ?_
  exact ⟨rfl,rfl⟩
theorem toArray_g (x:Ar):GF Tryz.prog 99 [.agg (encAr x)] [] (.agg (encAr x)) []:=by
 refine GC.enter Tryz.func99 Tryz.ntmps99 rfl (by simp only [gframe,grep,Nat.reduceSub];rfl) ?_
 refine w_grun ?_
 refine w_gretc ?_
 exact ⟨rfl,rfl⟩
theorem toArrayS_g (l:List Ar) (hl:l.length≤1048576):GF Tryz.prog 49 [.sl 2 (l.map encAr)] [] (.sl 2 (l.map encAr)) []:=by
 have hm:(l.map encAr).length=l.length:=by simp
 refine GC.enter Tryz.func49 Tryz.ntmps49 rfl (by simp only [gframe,grep,Nat.reduceSub];rfl) ?_
 refine w_grun ?_
 refine GL.mkN rfl ⟨by omega,by omega⟩ ?_;intro a c;refine w_gnmb ?_
 refine w_grun ?_
 refine GW.loop (fun k:Nat=>l.length - k) (fun k fr Γ=>∃ R Z,fr=[.sl 2 (l.map encAr),.any,.any,.v (.slice a (l.map encAr).length c),.v (ii (k:Nat)),.any,.any,.any,.any,.any,.any,.any,.any,.any,.any,.any,.any,.any,.any,.any,.any,.any,.any]∧Γ=[.vech 87 2 R (.slice a (l.map encAr).length c)]∧k≤l.length∧R=(l.take k).map encAr++List.replicate (l.length - k) Z) 0 ?_ ?_
 ·exact ⟨_,_,Wk.frm w_wkf,_,_,rfl,rfl,Nat.zero_le _,by rw [hm];rfl⟩
 rintro k _ _ ⟨R,Z,rfl,rfl,hk,hR⟩
 have hRl:R.length=l.length:=by rw [hR];exact fill_len hk
 have hRn:R.length=(l.map encAr).length:=by rw [hm];exact hRl
 by_cases hlt:k < l.length
 ·have hx:l[k]?=some l[k]:=by simp [hlt]
  have hr:(l.map encAr)[k]?=some (encAr l[k]):=by rw [List.getElem?_map,hx];rfl
  have hd2:decide ((k:Int) < ((l.map encAr).length:Int))=true:=by rw [hm];simpa using hlt
  have hset:=fill_set (f:=encAr) (Z:=Z) hx
  rw [←hR] at hset
  have hc:=toArray_g l[k]
  clear hR
  generalize l[k]=x at *
  refine w_grun ?_
  refine w_gcall [] (hc) ?_
  refine w_grun ?_
  refine w_gsthn ?_
  refine w_grun ?_
  exact ⟨k+1,⟨_,_,Wk.frm w_wkf,_,Z,rfl,rfl,hlt,hset⟩,by show l.length - (k+1) < l.length - k;omega⟩
 ·have hd2:decide ((k:Int) < ((l.map encAr).length:Int))=false:=by rw [hm];simpa using hlt
  have hke:k=l.length:=by omega
  subst hke
  rw [fill_all] at hR
  subst hR
  refine w_grun ?_
  refine w_gexit ?_
  refine GW.wk (by apply Wk.sealH (t:=3) (i:=0) <;> rfl) ?_
  simp only [oset,gupd]
  refine w_grun ?_
  refine w_gret ?_
  exact ⟨rfl,rfl⟩
theorem toFn_g (x:Go.Sp.Fn) (hp:x.params.length≤1048576):GF Tryz.prog 100 [.agg (encFn x)] [] (.agg (encFn x)) []:=by
 have h0:=toStringS_g x.params hp
 refine GC.enter Tryz.func100 Tryz.ntmps100 rfl (by simp only [gframe,grep,Nat.reduceSub];rfl) ?_
 refine w_grun ?_
 refine w_gcall [] (h0) ?_
 refine w_grun ?_
 refine w_gretc ?_
 exact ⟨rfl,rfl⟩
theorem toFnS_g (l:List Go.Sp.Fn) (hl:l.length≤1048576) (he:∀ x∈l,x.params.length≤1048576):GF Tryz.prog 50 [.sl 3 (l.map encFn)] [] (.sl 3 (l.map encFn)) []:=by
 have hm:(l.map encFn).length=l.length:=by simp
 refine GC.enter Tryz.func50 Tryz.ntmps50 rfl (by simp only [gframe,grep,Nat.reduceSub];rfl) ?_
 refine w_grun ?_
 refine GL.mkN rfl ⟨by omega,by omega⟩ ?_;intro a c;refine w_gnmb ?_
 refine w_grun ?_
 refine GW.loop (fun k:Nat=>l.length - k) (fun k fr Γ=>∃ R Z,fr=[.sl 3 (l.map encFn),.any,.any,.v (.slice a (l.map encFn).length c),.v (ii (k:Nat)),.any,.any,.any,.any,.any,.any,.any,.any,.any,.any,.any,.any,.any,.any,.any,.any,.any,.any]∧Γ=[.vech 89 3 R (.slice a (l.map encFn).length c)]∧k≤l.length∧R=(l.take k).map encFn++List.replicate (l.length - k) Z) 0 ?_ ?_
 ·exact ⟨_,_,Wk.frm w_wkf,_,_,rfl,rfl,Nat.zero_le _,by rw [hm];rfl⟩
 rintro k _ _ ⟨R,Z,rfl,rfl,hk,hR⟩
 have hRl:R.length=l.length:=by rw [hR];exact fill_len hk
 have hRn:R.length=(l.map encFn).length:=by rw [hm];exact hRl
 by_cases hlt:k < l.length
 ·have hx:l[k]?=some l[k]:=by simp [hlt]
  have hr:(l.map encFn)[k]?=some (encFn l[k]):=by rw [List.getElem?_map,hx];rfl
  have hd2:decide ((k:Int) < ((l.map encFn).length:Int))=true:=by rw [hm];simpa using hlt
  have hset:=fill_set (f:=encFn) (Z:=Z) hx
  rw [←hR] at hset
  have hex:=he _ (List.mem_of_getElem? hx)
  have hc:=toFn_g l[k] hex
  clear hR
  generalize l[k]=x at *
  refine w_grun ?_
  refine w_gcall [] (hc) ?_
  refine w_grun ?_
  refine w_gsthn ?_
  refine w_grun ?_
  exact ⟨k+1,⟨_,_,Wk.frm w_wkf,_,Z,rfl,rfl,hlt,hset⟩,by show l.length - (k+1) < l.length - k;omega⟩
 ·have hd2:decide ((k:Int) < ((l.map encFn).length:Int))=false:=by rw [hm];simpa using hlt
  have hke:k=l.length:=by omega
  subst hke
  rw [fill_all] at hR
  subst hR
  refine w_grun ?_
  refine w_gexit ?_
  refine GW.wk (by apply Wk.sealH (t:=3) (i:=0) <;> rfl) ?_
  simp only [oset,gupd]
  refine w_grun ?_
  refine w_gret ?_
  exact ⟨rfl,rfl⟩
theorem toNode_g (x:Nd) (hp:x.kids.length≤1048576):GF Tryz.prog 101 [.agg (encNode x)] [] (.agg (encNode x)) []:=by
 have h0:=toIntS_g x.kids hp
 refine GC.enter Tryz.func101 Tryz.ntmps101 rfl (by simp only [gframe,grep,Nat.reduceSub];rfl) ?_
 refine w_grun ?_
 refine w_gcall [] (h0) ?_
 refine w_grun ?_
 refine w_gretc ?_
 exact ⟨rfl,rfl⟩
theorem toNodeS_g (l:List Nd) (hl:l.length≤1048576) (he:∀ x∈l,x.kids.length≤1048576):GF Tryz.prog 51 [.sl 5 (l.map encNode)] [] (.sl 5 (l.map encNode)) []:=by
 have hm:(l.map encNode).length=l.length:=by simp
 refine GC.enter Tryz.func51 Tryz.ntmps51 rfl (by simp only [gframe,grep,Nat.reduceSub];rfl) ?_
 refine w_grun ?_
 refine GL.mkN rfl ⟨by omega,by omega⟩ ?_;intro a c;refine w_gnmb ?_
 refine w_grun ?_
 refine GW.loop (fun k:Nat=>l.length - k) (fun k fr Γ=>∃ R Z,fr=[.sl 5 (l.map encNode),.any,.any,.v (.slice a (l.map encNode).length c),.v (ii (k:Nat)),.any,.any,.any,.any,.any,.any,.any,.any,.any,.any,.any,.any,.any,.any,.any,.any,.any,.any]∧Γ=[.vech 61 5 R (.slice a (l.map encNode).length c)]∧k≤l.length∧R=(l.take k).map encNode++List.replicate (l.length - k) Z) 0 ?_ ?_
 ·exact ⟨_,_,Wk.frm w_wkf,_,_,rfl,rfl,Nat.zero_le _,by rw [hm];rfl⟩
 rintro k _ _ ⟨R,Z,rfl,rfl,hk,hR⟩
 have hRl:R.length=l.length:=by rw [hR];exact fill_len hk
 have hRn:R.length=(l.map encNode).length:=by rw [hm];exact hRl
 by_cases hlt:k < l.length
 ·have hx:l[k]?=some l[k]:=by simp [hlt]
  have hr:(l.map encNode)[k]?=some (encNode l[k]):=by rw [List.getElem?_map,hx];rfl
  have hd2:decide ((k:Int) < ((l.map encNode).length:Int))=true:=by rw [hm];simpa using hlt
  have hset:=fill_set (f:=encNode) (Z:=Z) hx
  rw [←hR] at hset
  have hex:=he _ (List.mem_of_getElem? hx)
  have hc:=toNode_g l[k] hex
  clear hR
  generalize l[k]=x at *
  refine w_grun ?_
  refine w_gcall [] (hc) ?_
  refine w_grun ?_
  refine w_gsthn ?_
  refine w_grun ?_
  exact ⟨k+1,⟨_,_,Wk.frm w_wkf,_,Z,rfl,rfl,hlt,hset⟩,by show l.length - (k+1) < l.length - k;omega⟩
 ·have hd2:decide ((k:Int) < ((l.map encNode).length:Int))=false:=by rw [hm];simpa using hlt
  have hke:k=l.length:=by omega
  subst hke
  rw [fill_all] at hR
  subst hR
  refine w_grun ?_
  refine w_gexit ?_
  refine GW.wk (by apply Wk.sealH (t:=3) (i:=0) <;> rfl) ?_
  simp only [oset,gupd]
  refine w_grun ?_
  refine w_gret ?_
  exact ⟨rfl,rfl⟩
theorem toSource_g (x:Src) (hg:x.globals.length≤1048576) (ha:x.arrays.length≤1048576) (hf:x.fns.length≤1048576) (hfp:∀ f∈x.fns,f.params.length≤1048576) (hn:x.nodes.length≤1048576) (hnk:∀ n∈x.nodes,n.kids.length≤1048576):GF Tryz.prog 14 [.agg (encSrc x)] [] (.agg (encSrc x)) []:=by
 have h0:=toStringS_g x.globals hg
 have h1:=toArrayS_g x.arrays ha
 have h2:=toFnS_g x.fns hf hfp
 have h3:=toNodeS_g x.nodes hn hnk
 refine GC.enter Tryz.func14 Tryz.ntmps14 rfl (by simp only [gframe,grep,Nat.reduceSub];rfl) ?_
 refine w_grun ?_
 refine w_gcall [] (h0) ?_
 refine w_grun ?_
 refine w_gcall [] (h1) ?_
 refine w_grun ?_
 refine w_gcall [] (h2) ?_
 refine w_grun ?_
 refine w_gcall [] (h3) ?_
 refine w_grun ?_
 refine w_gretc ?_
 exact ⟨rfl,rfl⟩
end Go.Xg
namespace Go.Xg
open Go.RowKit Go.Xw
def Ob.isH:Ob→Bool
 | .vech _ _ _ _=>true
 | _=>false
def pickβ (β:Bt) (sel:List Nat):Bt:=fun j=>match sel[j]? with
 | some i=>β i
 | none=>.no
section
variable {B:Bs} {K:Fz} {β:Bt} {Γ:List Ob} {w:World}
theorem RelL.pcs {K:Fz} {β β':Bt} {vs:List Value} {gs:List GV} (h:RelL K β vs gs) (hp:∀ g∈gs,g.pc=true):RelL K β' vs gs:=⟨h.1,fun i v g h1 h2=>(h.2 i v g h1 h2).pc (hp g (List.mem_of_getElem? h2))⟩
theorem rowsOk.flat {k:Nat} {rows:List (List GV)} (h:rowsOk k rows):∀ g∈rows.flatten,g.pc=true:=fun g hg=>by
 obtain ⟨r,h1,h2⟩:=List.mem_flatten.1 hg
 exact (h r h1).2 g h2
theorem Inv.pick (h:Inv B K β Γ w) (hm:B.m=0) {sel:List Nat} {Δ:List Ob} (hl:Δ.length=sel.length) (hn:sel.Nodup)
  (hx:∀ (j:Nat) x,Δ[j]?=some x→x.isH=true∧∀ i,sel[j]?=some i→Γ[i]?=some x):Inv B K (pickβ β sel) Δ w:=by
 have hb:∀ i b,(pickβ β sel i).blk=some b→∃ q,sel[i]?=some q∧(β q).blk=some b:=fun i b hi=>by
  unfold pickβ at hi
  cases hs:sel[i]? with
  | none=>rw [hs] at hi;cases hi
  | some q=>rw [hs] at hi;exact ⟨q,rfl,hi⟩
 refine ⟨h.ext,h.kle,fun i=>by rw [h.loc i (by omega)];trivial,h.loc,h.fz,fun i x hi=>?_,fun i hi=>?_,fun i j b hi hj=>?_,fun i b hi=>?_,h.kn,h.tab.step (S:=none') (Ext.refl w) (fun _ h=>h.elim) (KLe.refl K) (fun i b2 h2=>?_)⟩
 ·obtain ⟨h1,h2⟩:=hx i x hi
  have hlt:=(List.getElem?_eq_some_iff.1 hi).1
  have hs:sel[i]?=some (sel[i]'(by omega)):=List.getElem?_eq_getElem _
  cases x with
  | vech E k rows v =>
   obtain ⟨xs,e1,e2,e3,e4,e5⟩:=h.ob _ _ (h2 _ hs)
   refine ⟨xs,?_,e2,e3.pcs e4.flat,e4,e5⟩
   show pickβ β sel i=_
   unfold pickβ
   rw [hs];exact e1
  | _=>cases h1
 ·unfold pickβ
  rw [List.getElem?_eq_none (by omega)]
 ·obtain ⟨q,h1,h2⟩:=hb i b hi
  obtain ⟨r,h3,h4⟩:=hb j b hj
  have:=h.dis q r b h2 h4
  subst this
  obtain ⟨a1,a2⟩:=List.getElem?_eq_some_iff.1 h1
  obtain ⟨b1,b2⟩:=List.getElem?_eq_some_iff.1 h3
  exact (List.getElem_inj hn).1 (a2.trans b2.symm)
 ·obtain ⟨q,h1,h2⟩:=hb i b hi
  exact h.own q b h2
 ·obtain ⟨q,h3,h4⟩:=hb i b2 h2
  exact .inl ⟨q,h4⟩
theorem Inv.view {i E k:Nat} {rows:List (List GV)} {x:Value} (h:Inv B K β Γ w) (hi:Γ[i]?=some (.vech E k rows x)):∃ K1,KLe K K1∧FzOk K1 w∧Tabs K1 (fun _=>.no) w∧Rel K1 (fun _=>.no) x (.sl k rows):=by
 obtain ⟨K',hK,hr,hI'⟩:=h.shutH hi
 exact ⟨K',hK,hI'.fz,⟨hI'.tab.le,hI'.tab.pow,hI'.tab.spc,fun i b h=>by cases h⟩,hr.pc rfl⟩
theorem Inv.tab0 (h:Inv B K β Γ w):Tabs K (fun _=>.no) w:=⟨h.tab.le,h.tab.pow,h.tab.spc,fun i b h=>by cases h⟩
theorem Inv.new (h:FzOk K w) (ht:Tabs K (fun _=>.no) w):Inv ⟨w,none',K,fun _=>.no,0⟩ K (fun _=>.no) [] w :=
 ⟨Ext.refl w,KLe.refl _,BLe.refl _,fun _ _=>rfl,h,fun i x h=>by simp at h,fun _ _=>rfl,fun i j b h=>(by cases h),fun i b h=>(by cases h),fun b o g h=>.inl h,ht⟩
theorem Inv.sealR {i idx o j E k T k':Nat} {rows ks:List (List GV)} {x h:Value} {r:List GV} (hI:Inv B K β Γ w) (hi:Γ[i]?=some (.vech T k rows h)) (hr:rows[idx]?=some r) (ho:r[o]?=some (.v x)) (hne:i≠j) (hj:Γ[j]?=some (.vech E k' ks x)) :
  ∃ K',KLe K K'∧Inv B K' β (oset (oset Γ j (.vec E k' ks.length ks)) i (.vech T k (rset rows idx o (.sl k' ks)) h)) w:=by
 obtain ⟨K',hK,hrel,hI'⟩:=hI.shutH hj
 obtain ⟨xs,h1,h2,h3,h4,h5⟩:=hI'.ob i (.vech T k rows h) (by rw [oset_eq,List.getElem?_set,if_neg (fun e=>hne e.symm)];exact hi)
 have hlt:=(List.getElem?_eq_some_iff.1 hr).1
 have hol:o < k:=by rw [←(h4 r (List.mem_of_getElem? hr)).1];exact (List.getElem?_eq_some_iff.1 ho).1
 exact ⟨K',hK,hI'.swap ⟨xs,by rw [rset_len];exact h1,by rw [rset_len];exact h2,by rw [rset_flat hol h4 hlt];exact RelL.gupd hrel h3 (row_at h4 hr ho),rset_ok rfl h4,h5⟩⟩
theorem rset_at {rows:List (List GV)} {i o:Nat} {g:GV} {r:List GV} (hr:rows[i]?=some r):∀ q,(rset rows i o g)[q]?=if q=i then some (gupd r o g) else rows[q]?:=by
 induction rows generalizing i with
 | nil=>simp at hr
 | cons x rs ih =>
  intro q
  cases i with
  | zero =>
   cases hr
   cases q with
   | zero=>simp [rset]
   | succ q=>simp [rset]
  | succ i =>
   cases q with
   | zero=>simp [rset]
   | succ q =>
    have:=ih (by simpa using hr) q
    simp only [rset,List.getElem?_cons_succ,this]
    by_cases h:q=i
    ·simp [h]
    ·simp [h]
theorem Inv.sealKids {T k o E k' jf N:Nat} {h:Value} {raw fin:Nat→List GV} {ks:Nat→List (List GV)} {hd:Nat→Value} {jp:Nat→Nat} (hI:Inv B K β Γ w) {rows0:List (List GV)} (hjf:Γ[jf]?=some (.vech T k rows0 h)) (h0:rows0.length=N∧∀ i,i < N→rows0[i]?=some (raw i))
  (hraw:∀ i,i < N→(raw i)[o]?=some (.v (hd i))∧gupd (raw i) o (.sl k' (ks i))=fin i) (hkid:∀ i,i < N→Γ[jp i]?=some (.vech E k' (ks i) (hd i))) (hne:∀ i,i < N→jp i≠jf) (hinj:∀ i i',i < N→i' < N→jp i=jp i'→i=i') :
  ∃ K' Γ' rows,KLe K K'∧Inv B K' β Γ' w∧Γ'[jf]?=some (.vech T k rows h)∧rows.length=N∧(∀ i,i < N→rows[i]?=some (fin i))∧∀ q,q≠jf→(∀ i,i < N→q≠jp i)→Γ'[q]?=Γ[q]?:=by
 have key:∀ n,n≤N→∃ K' Γ' rows,KLe K K'∧Inv B K' β Γ' w∧Γ'[jf]?=some (.vech T k rows h)∧rows.length=N∧(∀ i,i < n→rows[i]?=some (fin i))∧(∀ i,n≤i→i < N→rows[i]?=some (raw i))∧(∀ i,n≤i→i < N→Γ'[jp i]?=some (.vech E k' (ks i) (hd i)))∧∀ q,q≠jf→(∀ i,i < N→q≠jp i)→Γ'[q]?=Γ[q]?:=by
  intro n
  induction n with
  | zero=>intro _;exact ⟨K,Γ,rows0,KLe.refl K,hI,hjf,h0.1,fun i h=>by omega,fun i _ h=>h0.2 i h,fun i _ h=>hkid i h,fun _ _ _=>rfl⟩
  | succ n ih =>
   intro hn
   obtain ⟨K',Γ',rows,a1,a2,a3,a4,a5,a6,a7,a8⟩:=ih (by omega)
   have hr:=a6 n (Nat.le_refl _) (by omega)
   obtain ⟨c1,c2⟩:=hraw n (by omega)
   obtain ⟨K2,b1,b2⟩:=a2.sealR a3 hr c1 (fun e=>hne n (by omega) e.symm) (a7 n (Nat.le_refl _) (by omega))
   have hlt:=(List.getElem?_eq_some_iff.1 a3).1
   refine ⟨K2,_,rset rows n o (.sl k' (ks n)),a1.trans b1,b2,?_,by rw [rset_len];exact a4,fun i hi=>?_,fun i hi hiN=>?_,fun i hi hiN=>?_,fun q hq hqj=>?_⟩
   ·rw [oset_eq,oset_eq,List.getElem?_set];simp [hlt]
   ·rw [rset_at hr,c2]
    by_cases e:i=n
    ·rw [if_pos e,e]
    ·rw [if_neg e];exact a5 i (by omega)
   ·rw [rset_at hr,if_neg (by omega)];exact a6 i (by omega) hiN
   ·rw [oset_eq,oset_eq,List.getElem?_set,if_neg (fun e=>hne i hiN e.symm),List.getElem?_set,if_neg (fun e=>by have:=hinj n i (by omega) hiN e;omega)]
    exact a7 i (by omega) hiN
   ·rw [oset_eq,oset_eq,List.getElem?_set,if_neg (fun e=>hq e.symm),List.getElem?_set,if_neg (fun e=>hqj n (by omega) e.symm)]
    exact a8 q hq hqj
 obtain ⟨K',Γ',rows,a1,a2,a3,a4,a5,_,_,a8⟩:=key N (Nat.le_refl _)
 exact ⟨K',Γ',rows,a1,a2,a3,a4,a5,a8⟩
end
section
variable {P:Program} {fn:Func} {R:GV→List Ob→Prop} {fr:List GV} {Γ:List Ob} {e:Exit}
theorem gbp1S {t:Tmp} {x:Value} (sel:List Nat) (Δ:List Ob) (hr:fn.results=#[.tmp t]) (he:e=.normal∨e=.ret) (hg:gnth fr t=.v x) (hl:Δ.length=sel.length) (hn:sel.Nodup)
  (hx:∀ (j:Nat) x,Δ[j]?=some x→x.isH=true∧∀ i,sel[j]?=some i→Γ[i]?=some x) (h:R (.v x) Δ):gbp P fn 0 R e fr Γ :=
 ⟨he,fun B K β w l hB hI hF=>⟨nth l t,K,pickβ β sel,.v x,Δ,by rw [results_tmp hr,nth_eq],hI.pick hB hl hn hx,by have:=hF.nth t;rw [hg] at this;rw [Rel.v_inv this];exact .v _,h⟩⟩
theorem gbpCS {t:Tmp} {T:TypeId} {k:Nat} [hT:Ty P T true k] {i:Nat} {E:TypeId} {cs:List GV} (sel:List Nat) (Δ:List Ob) (hr:fn.results=#[.cell t T]) (he:e=.normal∨e=.ret) (hg:gnth fr t=.loc i 0) (hΓ:Γ[i]?=some (.box E cs)) (hk:cs.length=k) (hp:pcs cs=true)
  (hl:Δ.length=sel.length) (hn:sel.Nodup) (hx:∀ (j:Nat) x,Δ[j]?=some x→x.isH=true∧∀ i,sel[j]?=some i→Γ[i]?=some x) (h:R (.agg cs) Δ):gbp P fn 0 R e fr Γ :=
 ⟨he,fun B K β w l hB hI hF=>by
  obtain ⟨b,vs,h1,h2,h3,h4⟩:=hI.ob i _ hΓ
  have hpp:nth l t=.pointer (some ⟨b,0,none⟩):=by
   have:=hF.nth t
   rw [hg] at this
   generalize nth l t=v at this
   cases this with
   | loc _ _ b' hb'=>rw [h1] at hb';cases hb';rfl
  have hp':l.toArray.getD t undef=.pointer (some ⟨b,0,none⟩):=by rw [nth_eq,hpp]
  have hld:=run_loadVarN (P:=P) (w:=w) (t:=T) (b:=b) (o:=0) (vs:=vs) (k:=k) (by rw [h3.1,hk]) (fun j v hj=>by
   rw [Nat.zero_add,cell_of_row w b j _ E (0,0) h2];simpa using hj)
  have hp'':l[t]?.getD undef=.pointer (some ⟨b,0,none⟩):=by simpa using hp'
  have h5:RelL K (pickβ β sel) vs cs:=h3.pcs (pcs_mem hp)
  exact ⟨.agg vs.toArray,K,pickβ β sel,.agg cs,Δ,by simp [results,hr,hp'',asAddr,hld],hI.pick hB hl hn hx,.agg vs cs h5.1 h5.2,h⟩⟩
end
section
variable {P:Program} {fn:Func} {R:GV→List Ob→Prop} {fr:List GV} {Γ:List Ob} {e:Exit}
theorem drop_keep {Γ:List Ob} {n:Nat} (h:∀ x∈Γ.drop n,x.isH=true):(Γ.drop n).length=((List.range (Γ.length - n)).map (·+n)).length∧((List.range (Γ.length - n)).map (·+n)).Nodup ∧
  ∀ (j:Nat) x,(Γ.drop n)[j]?=some x→x.isH=true∧∀ i,((List.range (Γ.length - n)).map (·+n))[j]?=some i→Γ[i]?=some x:=by
 refine ⟨by simp,?_,fun j x hj=>⟨h x (List.mem_of_getElem? hj),fun i hi=>?_⟩⟩
 ·unfold List.Nodup
  rw [List.pairwise_map]
  exact List.nodup_range.imp fun hne he=>hne (by omega)
 ·have hlt:=(List.getElem?_eq_some_iff.1 hj).1
  rw [List.length_drop] at hlt
  rw [List.getElem?_map,List.getElem?_range hlt] at hi
  cases hi
  rw [List.getElem?_drop] at hj
  show Γ[j+n]?=some x
  rw [Nat.add_comm];exact hj
theorem gbp1D {t:Tmp} {x:Value} (n:Nat) (hr:fn.results=#[.tmp t]) (he:e=.normal∨e=.ret) (hg:gnth fr t=.v x) (ha:∀ x∈Γ.drop n,x.isH=true) (h:R (.v x) (Γ.drop n)):gbp P fn 0 R e fr Γ :=
 have hd:=drop_keep ha
 gbp1S _ (Γ.drop n) hr he hg hd.1 hd.2.1 hd.2.2 h
theorem gbpCD {t:Tmp} {T:TypeId} {k:Nat} [hT:Ty P T true k] {i:Nat} {E:TypeId} {cs:List GV} (n:Nat) (hr:fn.results=#[.cell t T]) (he:e=.normal∨e=.ret) (hg:gnth fr t=.loc i 0) (hΓ:Γ[i]?=some (.box E cs)) (hk:cs.length=k) (hp:pcs cs=true)
  (ha:∀ x∈Γ.drop n,x.isH=true) (h:R (.agg cs) (Γ.drop n)):gbp P fn 0 R e fr Γ :=
 have hd:=drop_keep ha
 gbpCS _ (Γ.drop n) hr he hg hΓ hk hp hd.1 hd.2.1 hd.2.2 h
end
section
variable {P:Program} {m:Nat} {Q:GPost} {fr:List GV} {Γ:List Ob} {ops:Array Oper} {rest:List Oper} {d:Option Tmp} {op:Op} {ty:TypeId} {pos:String} {af:Array Edge}
theorem GL.boxF {t:TypeId} {x:Operand} {cs:List GV} (hx:gcells (gev fr x)=some cs) (hp:pcs cs=true) (h:GL P m ops Q rest (gput fr d (.box cs 0)) Γ):GL P m ops Q (⟨d,.box t x,ty,pos,af,none⟩::rest) fr Γ:=fun B K β w l hm hI hF=>by
 obtain ⟨vs,h1,h2⟩:=(hF.ev x).cells hx
 refine WL.box rfl fun b w' hn=>?_
 rw [h1] at hn
 obtain ⟨hle,hI'⟩:=hI.freezeNew hn h2 (pcs_mem hp)
 exact h B _ β w' _ hm hI' ((hF.mono hle (BLe.refl β)).put d (Rel.box (K:=addK K b cs) (β:=β) b 0 0 cs (fun j g hg=>by rw [Nat.zero_add];exact addK_at hg)))
theorem GL.borrow {f:FuncId} [hf:Fun P f] {args:List Operand} {tys:Array TypeId} {gs:List GV} {v:Value} (hc:GF P f gs [] (.v v) [])
  (hv:∀ B K β w l,Inv B K β Γ w→FR K β fr l→∃ K1,FzOk K1 w∧Tabs K1 (fun _=>.no) w∧RelL K1 (fun _=>.no) (args.map (ev l)) gs)
  (h:GL P m ops Q rest (gput fr d (.v v)) Γ):GL P m ops Q (⟨d,.call ⟨.value (.func f),args.toArray,tys⟩,ty,pos,af,none⟩::rest) fr Γ:=fun B K β w l hm hI hF=>by
 obtain ⟨K1,h1,h2,h3⟩:=hv B K β w l hI hF
 have hr0:(execOp (ev l) ⟨d,.call ⟨.value (.func f),args.toArray,tys⟩,ty,pos,af,none⟩).run P w=.ok (.enter f (args.map (ev l)).toArray) w:=by simp [execOp,resolve,ev,Deferred.ofValue,invoke,run_callFunc]
 refine WL.calls hr0 (hc _ K1 _ w _ rfl (Inv.new h1 h2) h3) ?_
 rintro x w' ⟨K',β',g,Γ',hI',hrel,rfl,rfl⟩
 exact h B K β w' _ hm (hI.same hI'.ext) (hF.put d (by rw [Rel.v_inv hrel];exact .v _))
theorem GL.borrowN {f:FuncId} [hf:Fun P f] {args:List Operand} {tys:Array TypeId} {gs:List GV} {E k n:Nat} {rows:List (List GV)} (hc:GC P f gs [] fun g Δ=>∃ a c,g=.v (.slice a n c)∧Δ=[.vech E k rows (.slice a n c)])
  (hn:rows.length=n) (hrows:∀ r∈rows,∀ g∈r,∃ x,g=.v x)
  (hv:∀ B K β w l,Inv B K β Γ w→FR K β fr l→∃ K1,FzOk K1 w∧Tabs K1 (fun _=>.no) w∧RelL K1 (fun _=>.no) (args.map (ev l)) gs)
  (h:∀ a c,GL P m ops Q rest (gput fr d (.v (.slice a n c))) (Γ++[.vech E k rows (.slice a n c)])):GL P m ops Q (⟨d,.call ⟨.value (.func f),args.toArray,tys⟩,ty,pos,af,none⟩::rest) fr Γ:=fun B K β w l hm hI hF=>by
 obtain ⟨K1,h1,h2,h3⟩:=hv B K β w l hI hF
 have hr0:(execOp (ev l) ⟨d,.call ⟨.value (.func f),args.toArray,tys⟩,ty,pos,af,none⟩).run P w=.ok (.enter f (args.map (ev l)).toArray) w:=by simp [execOp,resolve,ev,Deferred.ofValue,invoke,run_callFunc]
 refine WL.calls hr0 (hc _ K1 _ w _ rfl (Inv.new h1 h2) h3) ?_
 rintro x w' ⟨K',β',g,Γ',hI',hrel,a,c,rfl,rfl⟩
 subst hn
 obtain ⟨xs,e1,e2,e3,e4,e5⟩:=hI'.ob 0 _ rfl
 have hIs:=hI.same hI'.ext
 have hflat:∀ g∈rows.flatten,∃ x,g=.v x:=fun g hg=>by
  obtain ⟨r,h5,h6⟩:=List.mem_flatten.1 hg
  exact hrows r h5 g h6
 have hr:RelL K β xs rows.flatten:=⟨e3.1,fun i v g h5 h6=>by
  obtain ⟨y,rfl⟩:=hflat g (List.mem_of_getElem? h6)
  rw [Rel.v_inv (e3.2 i v _ h5 h6)];exact .v _⟩
 have hblk:∀ b,(Value.slice a rows.length c).ownBlock=some b→w.heap.size≤b:=fun b hb=>by
  rcases hI'.own 0 b (by rw [e1];exact hb) with h5 | h5
  ·exact h5.elim
  ·exact h5
 have hno:β Γ.length=.no:=hI.out _ (Nat.le_refl _)
 have hI2:=hI.addV (w':=w') (x:=.slice a rows.length c) hI'.ext e2 hblk hr e4
 have hb:setβ β Γ.length (.gr (.slice a rows.length c) rows.length) Γ.length=.gr (.slice a rows.length c) rows.length:=setβ_same
 have hle:BLe β (setβ β Γ.length (.gr (.slice a rows.length c) rows.length)):=setβ_le (by rw [hno];trivial)
 have hI3:=hI2.swap (i:=Γ.length) (y:=.vech E k rows (.slice a rows.length c)) ⟨xs,hb,e2,hr.mono (KLe.refl K) hle,e4,fun b hb o=>by
  cases hk:K b o with
  | none=>rfl
  | some g=>have:=hI.fz.lt hk;have:=hblk b hb;omega⟩
 rw [oset_eq] at hI3
 simp only [List.length_append,List.length_cons,List.length_nil,List.set_append_right _ _ (Nat.le_refl _),Nat.sub_self,List.set_cons_zero] at hI3
 exact h a c B K _ w' _ hm hI3 ((hF.mono (KLe.refl K) hle).put d (by rw [Rel.v_inv hrel];exact .v _))
theorem run_append_empty {P:Program} {w:World} {t e ty:TypeId} {i:TypeInfo} (hu:P.underlying t=some (.slice e)) (hi:P.info? e=some i) (a b:Option Addr) (n c d:Nat) (hc:n≤c) :
  (Builtin.append_ #[t,t] ty #[.slice a n c,.slice b 0 d]).run P w=.ok (.slice a n c) w:=by
 cases a <;> cases b <;> simp [Builtin.append_,run_underlying hu,sizeOf,typeInfo,hi,Builtin.lenOf,hc,Builtin.firstCells,loadCells,loadCellsFrom,storeCells]
theorem GL.appHE {s x:Operand} {t e k by':Nat} [hT:ApT P t e k by'] (i:Nat) {dt:Tmp} {v:Value} {rows:List (List GV)} (hx:gev fr x=.sl k []) (hs:gev fr s=.v v) (hΓ:Γ[i]?=some (.vech e k rows v))
  (h:GL P m ops Q rest (gput fr (some dt) (.v v)) Γ):GL P m ops Q (⟨some dt,.call ⟨.builtin .append,#[s,x],#[t,t]⟩,ty,pos,af,none⟩::rest) fr Γ:=fun B K β w l hm hI hF=>by
 obtain ⟨hu,⟨j,z,hi,_⟩,_⟩:=hT.parts
 obtain ⟨xs,o1,o2,_⟩:=hI.ob i _ hΓ
 have hsv:ev l s=v:=hF.evv hs
 have hxr:=hF.ev x;rw [hx] at hxr
 generalize hxv:ev l x=vx at hxr
 obtain ⟨b,d',rfl⟩:∃ b d',vx=.slice b 0 d':=by
  cases hxr with
  | sl0 a c k=>exact ⟨a,c,rfl⟩
  | sl b o c _ _ hr _=>exact ⟨_,_,rfl⟩
 obtain ⟨a,n,c,rfl,hc⟩:∃ a n c,v=.slice a n c∧n≤c:=by
  rcases o2.2 with ⟨e1,e2⟩ | ⟨g,cap,cur,e1,_,_,e2,_⟩
  ·exact ⟨_,_,_,e1,Nat.le_refl _⟩
  ·exact ⟨_,_,_,e1,e2⟩
 have hrun:=run_append_empty (P:=P) (w:=w) (ty:=ty) hu hi a b n c d' hc
 exact WL.val (v:=.slice a n c) (w':=w) (by simp [execOp,resolve,invoke,builtin,hsv,hxv,hrun]) (h B K β w _ hm hI (hF.put _ (.v _)))
theorem GL.appVE {s x:Operand} {t e k by':Nat} [hT:ApT P t e k by'] {i n fz:Nat} {dt:Tmp} {rows:List (List GV)} (hx:gev fr x=.sl k []) (hs:gev fr s=.vec i n) (hΓ:Γ[i]?=some (.vec e k fz rows)) (hn:rows.length=n)
  (h:GL P m ops Q rest (gput fr (some dt) (.vec i n)) Γ):GL P m ops Q (⟨some dt,.call ⟨.builtin .append,#[s,x],#[t,t]⟩,ty,pos,af,none⟩::rest) fr Γ:=fun B K β w l hm hI hF=>by
 subst hn
 obtain ⟨hu,⟨j,z,hi,_⟩,_⟩:=hT.parts
 obtain ⟨h0,xs,o1,o2,_⟩:=hI.ob i _ hΓ
 have hsr:=hF.ev s
 rw [hs] at hsr
 have hsv:ev l s=h0:=by
  generalize hv:ev l s=v at hsr
  cases hsr with
  | vec _ _ a c hh =>
   obtain ⟨h',m',e1,e2,e3⟩:=hh
   rw [o1] at e1;cases e1
   exact e3 rfl
 have hxr:=hF.ev x;rw [hx] at hxr
 generalize hxv:ev l x=vx at hxr
 obtain ⟨b,d',rfl⟩:∃ b d',vx=.slice b 0 d':=by
  cases hxr with
  | sl0 a c k=>exact ⟨a,c,rfl⟩
  | sl b o c _ _ hr _=>exact ⟨_,_,rfl⟩
 obtain ⟨a,n,c,rfl,hc⟩:∃ a n c,h0=.slice a n c∧n≤c:=by
  rcases o2.2 with ⟨e1,e2⟩ | ⟨g,cap,cur,e1,_,_,e2,_⟩
  ·exact ⟨_,_,_,e1,Nat.le_refl _⟩
  ·exact ⟨_,_,_,e1,e2⟩
 have hrun:=run_append_empty (P:=P) (w:=w) (ty:=ty) hu hi a b n c d' hc
 exact WL.val (v:=.slice a n c) (w':=w) (by simp [execOp,resolve,invoke,builtin,hsv,hxv,hrun]) (h B K β w _ hm hI (hF.put _ (by have:=hF.ev s;rw [hs,hsv] at this;exact this)))
theorem oset_self {Γ:List Ob} {i:Nat} {x:Ob} (h:Γ[i]?=some x):oset Γ i x=Γ:=by
 rw [oset_eq]
 apply List.ext_getElem?
 intro j
 rw [List.getElem?_set]
 by_cases e:i=j
 ·subst e
  have:=(List.getElem?_eq_some_iff.1 h).1
  rw [if_pos rfl,if_pos this,h]
 ·rw [if_neg e]
theorem GL.appHA {s x:Operand} {t e k by':Nat} [hT:ApT P t e k by'] (i:Nat) {n:Nat} {dt:Tmp} {a0:Option Addr} {c0:Nat} {rows news:List (List GV)} (hx:gev fr x=.sl k news) (hs:gev fr s=.v (.slice a0 n c0)) (hΓ:Γ[i]?=some (.vech e k rows (.slice a0 n c0))) (hn:rows.length=n) (h1:onesR news=true)
  (hb:n+news.length≤9223372036854775807∧(n+news.length) * by'≤140737488355328)
  (h:∀ a c,GL P m ops Q rest (gput fr (some dt) (.v (.slice a (n+news.length) c))) (oset Γ i (.vech e k (rows++news) (.slice a (n+news.length) c)))) :
  GL P m ops Q (⟨some dt,.call ⟨.builtin .append,#[s,x],#[t,t]⟩,ty,pos,af,none⟩::rest) fr Γ:=by
 cases news with
 | nil =>
  have h0:=h a0 c0
  rw [List.append_nil,show n+([]:List (List GV)).length=n from rfl,oset_self hΓ] at h0
  exact GL.appHE i hx hs hΓ h0
 | cons r rs=>exact GL.appH i hx hs hΓ hn h1 rfl hb h
theorem GL.appVA {s x:Operand} {t e k by':Nat} [hT:ApT P t e k by'] {i n fz:Nat} {dt:Tmp} {rows news:List (List GV)} (hx:gev fr x=.sl k news) (hs:gev fr s=.vec i n) (hΓ:Γ[i]?=some (.vec e k fz rows)) (hn:rows.length=n) (h1:onesR news=true)
  (hb:n+news.length≤9223372036854775807∧(n+news.length) * by'≤140737488355328)
  (h:GL P m ops Q rest (gput fr (some dt) (.vec i (n+news.length))) (oset Γ i (.vec e k fz (rows++news)))) :
  GL P m ops Q (⟨some dt,.call ⟨.builtin .append,#[s,x],#[t,t]⟩,ty,pos,af,none⟩::rest) fr Γ:=by
 cases news with
 | nil =>
  rw [List.append_nil,show n+([]:List (List GV)).length=n from rfl,oset_self hΓ] at h
  exact GL.appVE hx hs hΓ hn h
 | cons r rs=>exact GL.app hx hs hΓ hn h1 rfl hb h
theorem setR_over:∀ (us vs:List Value),vs.length=us.length→setR vs 0 us=us:=by
 have key:∀ (us a vs:List Value),vs.length=us.length→setR (a++vs) a.length us=a++us:=by
  intro us
  induction us with
  | nil=>intro a vs h;rw [List.eq_nil_of_length_eq_zero h];rfl
  | cons u us ih =>
   intro a vs h
   cases vs with
   | nil=>simp at h
   | cons v vs =>
    have hu:upd (a++v::vs) a.length u=(a++[u])++vs:=by
     clear ih h
     induction a with
     | nil=>rfl
     | cons x a ih=>rw [List.cons_append,List.length_cons,upd,ih];rfl
    have:=ih (a++[u]) vs (by simpa using h)
    rw [List.length_append,List.length_singleton] at this
    rw [setR,hu,this];simp
 intro us vs h
 exact key us [] vs h
theorem GL.newF {t:TypeId} {z:Value} {agg:Bool} {k:Nat} [hZ:Zer P t z] [hT:Ty P t agg k] {dt ts:Tmp} {cs:List GV} {ty2:TypeId} {pos2:String} {af2:Array Edge} {d2:Option Tmp} (hzk:z.cells.size=k) (hy:gcells (gnth fr ts)=some cs) (hne:Nat.beq ts dt=false) (hin:inL fr dt=true) (hk:cs.length=k) (h1:ones1 cs=true) (hp:pcs cs=true)
  (h:GL P m ops Q rest (gput (gput fr (some dt) (.box cs 0)) d2 (.v undef)) Γ):GL P m ops Q (⟨some dt,.alloc t,ty,pos,af,none⟩::⟨d2,.store t (.tmp dt) (.tmp ts),ty2,pos2,af2,none⟩::rest) fr Γ:=fun B K β w l hm hI hF=>by
 refine WL.alloc (z:=z) fun b w1 hn=>?_
 obtain ⟨us,hu1,hu2⟩:=(hF.nth ts).cells hy
 have hne':ts≠dt:=by intro e;subst e;simp at hne
 have hy':ev (put l (some dt) (.pointer (some ⟨b,0,none⟩))) (.tmp ts)=nth l ts:=nth_upd_ne hne' _
 have hx':ev (put l (some dt) (.pointer (some ⟨b,0,none⟩))) (.tmp dt)=.pointer (some ⟨b,0,none⟩):=nth_upd (inL_of hF hin) _
 have hul:us.length=k:=by rw [hu2.1,hk]
 refine WL.st (t:=t) (k:=k) hx' hy' hn.blk (by rw [hu1];simpa using hul) (by omega) (by rw [hu1];simpa using hu2.ones h1) fun w2 hs=>?_
 have hset:setL z.cells 0 us=us.toArray:=by
  have:=setL_setR us z.cells.toList 0
  rw [setR_over us _ (by rw [Array.length_toList,hzk,hul])] at this
  simpa using this
 rw [hu1,List.toList_toArray,hset] at hs
 have hnew:New w w2 b (.cells us.toArray t):=⟨hn.fresh,by rw [hs.size];exact hn.size,hs.blk,hn.ext.step hs.ext fun j hj=>.inl (by subst hj;rw [hn.fresh];exact Nat.le_refl _)⟩
 obtain ⟨hle,hI'⟩:=hI.freezeNew hnew hu2 (pcs_mem hp)
 exact h B _ β w2 _ hm hI' (((hF.mono hle (BLe.refl β)).put (some dt) (Rel.box (K:=addK K b cs) (β:=β) b 0 0 cs (fun j g hg=>by rw [Nat.zero_add];exact addK_at hg))).put d2 (.v _))
end
end Go.Xg
namespace Go.Xg
open Go.RowKit Go.Xw Go.Proofs
open Go.Xp (Nd Ar)
open Go.Sp (Src)
open Go.Im (fill_set fill_len fill_all)
attribute [local irreducible] GW GL GO YG GC GA gthn ginb
def strR (l:List Str):List (List GV):=l.map fun s=>[GV.v (sv s)]
def intR (l:List Int):List (List GV):=l.map fun i=>[GV.v (ii i)]
def Hd (n:Nat) (h:Value):Prop:=∃ a c,h=.slice a n c
theorem toStringS_o (l:List Str) (hl:l.length≤1048576):GC Tryz.prog 48 [strs l] [] fun g Δ=>∃ h,Hd l.length h∧g=.v h∧Δ=[.vech 9 1 (strR l) h]:=by
 have hm:(l.map (fun s=>[GV.v (sv s)])).length=l.length:=by simp
 refine GC.enter Tryz.func48 Tryz.ntmps48 rfl (by simp only [gframe,grep,Nat.reduceSub];rfl) ?_
 refine w_grun ?_
 refine GL.mkN rfl ⟨by omega,by omega⟩ ?_;intro a c;refine w_gnmb ?_
 refine w_grun ?_
 refine GW.loop (fun k:Nat=>l.length - k) (fun k fr Γ=>∃ R Z,fr=[strs l,.any,.any,.v (.slice a (l.map (fun s=>[GV.v (sv s)])).length c),.v (ii (k:Nat)),.any,.any,.any,.any,.any,.any,.any,.any,.any,.any,.any,.any,.any,.any,.any,.any,.any]∧Γ=[.vech 9 1 R (.slice a (l.map (fun s=>[GV.v (sv s)])).length c)]∧k≤l.length∧R=(l.take k).map (fun s=>[GV.v (sv s)])++List.replicate (l.length - k) Z) 0 ?_ ?_
 ·exact ⟨_,_,Wk.frm w_wkf,_,_,rfl,rfl,Nat.zero_le _,by rw [hm];rfl⟩
 rintro k _ _ ⟨R,Z,rfl,rfl,hk,hR⟩
 have hRl:R.length=l.length:=by rw [hR];exact fill_len hk
 have hRn:R.length=(l.map (fun s=>[GV.v (sv s)])).length:=by rw [hm];exact hRl
 by_cases hlt:k < l.length
 ·have hx:l[k]?=some l[k]:=by simp [hlt]
  have hr:(l.map (fun s=>[GV.v (sv s)]))[k]?=some ((fun s=>[GV.v (sv s)]) l[k]):=by rw [List.getElem?_map,hx];rfl
  have hd2:decide ((k:Int) < ((l.map (fun s=>[GV.v (sv s)])).length:Int))=true:=by rw [hm];simpa using hlt
  have hset:=fill_set (f:=(fun s=>[GV.v (sv s)])) (Z:=Z) hx
  rw [←hR] at hset
  clear hR
  generalize l[k]=x at *
  refine w_grun ?_
  refine w_gsthn ?_
  refine w_grun ?_
  exact ⟨k+1,⟨_,_,Wk.frm w_wkf,_,Z,rfl,rfl,hlt,hset⟩,by show l.length - (k+1) < l.length - k;omega⟩
 ·have hd2:decide ((k:Int) < ((l.map (fun s=>[GV.v (sv s)])).length:Int))=false:=by rw [hm];simpa using hlt
  have hke:k=l.length:=by omega
  subst hke
  rw [fill_all] at hR
  subst hR
  refine w_grun ?_
  refine w_gexit ?_
  refine w_grun ?_
  (repeat (first | refine GW.ret ?_ | refine gthn_r ?_ | refine ginb_r ?_ | refine gthn_n ?_ | refine ginb_n ?_))
  exact gbp1D 0 rfl (by first | exact .inr rfl | exact .inl rfl) rfl (fun x hx=>by rw [List.mem_singleton.1 hx];rfl) ⟨_,⟨_,_,by rw [hm]⟩,rfl,rfl⟩
theorem toIntS_o (l:List Int) (hl:l.length≤1048576):GC Tryz.prog 146 [ints l] [] fun g Δ=>∃ h,Hd l.length h∧g=.v h∧Δ=[.vech 3 1 (intR l) h]:=by
 have hm:(l.map (fun i=>[GV.v (ii i)])).length=l.length:=by simp
 refine GC.enter Tryz.func146 Tryz.ntmps146 rfl (by simp only [gframe,grep,Nat.reduceSub];rfl) ?_
 refine w_grun ?_
 refine GL.mkN rfl ⟨by omega,by omega⟩ ?_;intro a c;refine w_gnmb ?_
 refine w_grun ?_
 refine GW.loop (fun k:Nat=>l.length - k) (fun k fr Γ=>∃ R Z,fr=[ints l,.any,.any,.v (.slice a (l.map (fun i=>[GV.v (ii i)])).length c),.v (ii (k:Nat)),.any,.any,.any,.any,.any,.any,.any,.any,.any,.any,.any,.any,.any,.any,.any,.any,.any]∧Γ=[.vech 3 1 R (.slice a (l.map (fun i=>[GV.v (ii i)])).length c)]∧k≤l.length∧R=(l.take k).map (fun i=>[GV.v (ii i)])++List.replicate (l.length - k) Z) 0 ?_ ?_
 ·exact ⟨_,_,Wk.frm w_wkf,_,_,rfl,rfl,Nat.zero_le _,by rw [hm];rfl⟩
 rintro k _ _ ⟨R,Z,rfl,rfl,hk,hR⟩
 have hRl:R.length=l.length:=by rw [hR];exact fill_len hk
 have hRn:R.length=(l.map (fun i=>[GV.v (ii i)])).length:=by rw [hm];exact hRl
 by_cases hlt:k < l.length
 ·have hx:l[k]?=some l[k]:=by simp [hlt]
  have hr:(l.map (fun i=>[GV.v (ii i)]))[k]?=some ((fun i=>[GV.v (ii i)]) l[k]):=by rw [List.getElem?_map,hx];rfl
  have hd2:decide ((k:Int) < ((l.map (fun i=>[GV.v (ii i)])).length:Int))=true:=by rw [hm];simpa using hlt
  have hset:=fill_set (f:=(fun i=>[GV.v (ii i)])) (Z:=Z) hx
  rw [←hR] at hset
  clear hR
  generalize l[k]=x at *
  refine w_grun ?_
  refine w_gsthn ?_
  refine w_grun ?_
  exact ⟨k+1,⟨_,_,Wk.frm w_wkf,_,Z,rfl,rfl,hlt,hset⟩,by show l.length - (k+1) < l.length - k;omega⟩
 ·have hd2:decide ((k:Int) < ((l.map (fun i=>[GV.v (ii i)])).length:Int))=false:=by rw [hm];simpa using hlt
  have hke:k=l.length:=by omega
  subst hke
  rw [fill_all] at hR
  subst hR
  refine w_grun ?_
  refine w_gexit ?_
  refine w_grun ?_
  (repeat (first | refine GW.ret ?_ | refine gthn_r ?_ | refine ginb_r ?_ | refine gthn_n ?_ | refine ginb_n ?_))
  exact gbp1D 0 rfl (by first | exact .inr rfl | exact .inl rfl) rfl (fun x hx=>by rw [List.mem_singleton.1 hx];rfl) ⟨_,⟨_,_,by rw [hm]⟩,rfl,rfl⟩
theorem toArrayS_o (l:List Ar) (hl:l.length≤1048576):GC Tryz.prog 49 [.sl 2 (l.map encAr)] [] fun g Δ=>∃ h,Hd l.length h∧g=.v h∧Δ=[.vech 87 2 (List.map encAr l) h]:=by
 have hm:(l.map (encAr)).length=l.length:=by simp
 refine GC.enter Tryz.func49 Tryz.ntmps49 rfl (by simp only [gframe,grep,Nat.reduceSub];rfl) ?_
 refine w_grun ?_
 refine GL.mkN rfl ⟨by omega,by omega⟩ ?_;intro a c;refine w_gnmb ?_
 refine w_grun ?_
 refine GW.loop (fun k:Nat=>l.length - k) (fun k fr Γ=>∃ R Z,fr=[.sl 2 (l.map encAr),.any,.any,.v (.slice a (l.map (encAr)).length c),.v (ii (k:Nat)),.any,.any,.any,.any,.any,.any,.any,.any,.any,.any,.any,.any,.any,.any,.any,.any,.any,.any]∧Γ=[.vech 87 2 R (.slice a (l.map (encAr)).length c)]∧k≤l.length∧R=(l.take k).map (encAr)++List.replicate (l.length - k) Z) 0 ?_ ?_
 ·exact ⟨_,_,Wk.frm w_wkf,_,_,rfl,rfl,Nat.zero_le _,by rw [hm];rfl⟩
 rintro k _ _ ⟨R,Z,rfl,rfl,hk,hR⟩
 have hRl:R.length=l.length:=by rw [hR];exact fill_len hk
 have hRn:R.length=(l.map (encAr)).length:=by rw [hm];exact hRl
 by_cases hlt:k < l.length
 ·have hx:l[k]?=some l[k]:=by simp [hlt]
  have hr:(l.map (encAr))[k]?=some ((encAr) l[k]):=by rw [List.getElem?_map,hx];rfl
  have hd2:decide ((k:Int) < ((l.map (encAr)).length:Int))=true:=by rw [hm];simpa using hlt
  have hset:=fill_set (f:=(encAr)) (Z:=Z) hx
  rw [←hR] at hset
  have hc:=toArray_g l[k]
  clear hR
  generalize l[k]=x at *
  refine w_grun ?_
  refine w_gcall [] (hc) ?_
  refine w_grun ?_
  refine w_gsthn ?_
  refine w_grun ?_
  exact ⟨k+1,⟨_,_,Wk.frm w_wkf,_,Z,rfl,rfl,hlt,hset⟩,by show l.length - (k+1) < l.length - k;omega⟩
 ·have hd2:decide ((k:Int) < ((l.map (encAr)).length:Int))=false:=by rw [hm];simpa using hlt
  have hke:k=l.length:=by omega
  subst hke
  rw [fill_all] at hR
  subst hR
  refine w_grun ?_
  refine w_gexit ?_
  refine w_grun ?_
  (repeat (first | refine GW.ret ?_ | refine gthn_r ?_ | refine ginb_r ?_ | refine gthn_n ?_ | refine ginb_n ?_))
  exact gbp1D 0 rfl (by first | exact .inr rfl | exact .inl rfl) rfl (fun x hx=>by rw [List.mem_singleton.1 hx];rfl) ⟨_,⟨_,_,by rw [hm]⟩,rfl,rfl⟩
def toFnR (x:Go.Sp.Fn) (h:Value):List GV:=[.v (sv x.name),.v h,.v (ii x.body)]
def toFnO (x:Go.Sp.Fn) (h:Value):Ob:=.vech 9 1 (strR x.params) h
theorem toFn_o (x:Go.Sp.Fn) (hp:x.params.length≤1048576):GC Tryz.prog 100 [.agg (encFn x)] [] fun g Δ=>∃ h,Hd x.params.length h∧g=.agg (toFnR x h)∧Δ=[toFnO x h]:=by
 have h0:=toStringS_o x.params hp
 refine GC.enter Tryz.func100 Tryz.ntmps100 rfl (by simp only [gframe,grep,Nat.reduceSub];rfl) ?_
 refine w_grun ?_
 refine w_gcallr [] (h0) ?_;rintro _ _ ⟨_,⟨a1,c1,rfl⟩,rfl,rfl⟩;refine w_gsim ?_
 refine w_grun ?_
 (repeat (first | refine GW.ret ?_ | refine gthn_r ?_ | refine ginb_r ?_ | refine gthn_n ?_ | refine ginb_n ?_))
 refine gbpCD 3 rfl (by first | exact .inr rfl | exact .inl rfl) rfl rfl rfl rfl ?_ ?_
 ·intro x hx
  rw [List.mem_singleton.1 hx];rfl
 ·exact ⟨_,⟨_,_,rfl⟩,rfl,rfl⟩
theorem toFnS_o (l:List Go.Sp.Fn) (hl:l.length≤1048576) (he:∀ x∈l,x.params.length≤1048576):GC Tryz.prog 50 [.sl 3 (l.map encFn)] [] fun g Δ=>∃ h hs,Hd l.length h∧hs.length=l.length∧(∀ (i:Nat) x y,l[i]?=some x→hs[i]?=some y→Hd x.params.length y)∧g=.v h ∧
  Δ=.vech 89 3 (List.zipWith toFnR l hs) h::List.zipWith toFnO l hs:=by
 have hm:(l.map encFn).length=l.length:=by simp
 refine GC.enter Tryz.func50 Tryz.ntmps50 rfl (by simp only [gframe,grep,Nat.reduceSub];rfl) ?_
 refine w_grun ?_
 refine GL.mkN rfl ⟨by omega,by omega⟩ ?_;intro a c;refine w_gnmb ?_
 refine w_grun ?_
 refine GW.loop (fun k:Nat=>l.length - k) (fun k fr Γ=>∃ R Z hs,fr=[.sl 3 (l.map encFn),.any,.any,.v (.slice a (l.map encFn).length c),.v (ii (k:Nat)),.any,.any,.any,.any,.any,.any,.any,.any,.any,.any,.any,.any,.any,.any,.any,.any,.any,.any]∧Γ=.vech 89 3 R (.slice a (l.map encFn).length c)::List.zipWith toFnO (l.take k) hs∧k≤l.length∧hs.length=k ∧
  (∀ (i:Nat) x y,l[i]?=some x→hs[i]?=some y→Hd x.params.length y)∧R=List.zipWith toFnR (l.take k) hs++List.replicate (l.length - k) Z) 0 ?_ ?_
 ·exact ⟨_,_,Wk.frm w_wkf,_,_,[],rfl,rfl,Nat.zero_le _,rfl,(fun i x y _ h=>by simp at h),by rw [hm];rfl⟩
 rintro k _ _ ⟨R,Z,hs,rfl,rfl,hk,hhs,hhd,hR⟩
 have hRl:R.length=l.length:=by rw [hR,List.length_append,List.length_zipWith,List.length_take,List.length_replicate];omega
 have hRn:R.length=(l.map encFn).length:=by rw [hm];exact hRl
 by_cases hlt:k < l.length
 ·have hx:l[k]?=some l[k]:=by simp [hlt]
  have hr:(l.map encFn)[k]?=some (encFn l[k]):=by rw [List.getElem?_map,hx];rfl
  have hd2:decide ((k:Int) < ((l.map encFn).length:Int))=true:=by rw [hm];simpa using hlt
  have hex:=he _ (List.mem_of_getElem? hx)
  have hc:=toFn_o l[k] hex
  have htk:l.take (k+1)=l.take k++[l[k]]:=by rw [List.take_add_one,hx];rfl
  have hzw:∀ {γ:Type} (f:Go.Sp.Fn→Value→γ) (h:Value),List.zipWith f (l.take (k+1)) (hs++[h])=List.zipWith f (l.take k) hs++[f l[k] h]:=fun f h=>by
   rw [htk,List.zipWith_append (by rw [List.length_take];omega)];rfl
  have hset:∀ h,R.set k (toFnR l[k] h)=List.zipWith toFnR (l.take (k+1)) (hs++[h])++List.replicate (l.length - (k+1)) Z:=fun h=>by
   have hz:(List.zipWith toFnR (l.take k) hs).length=k:=by rw [List.length_zipWith,List.length_take];omega
   rw [hR,hzw,show l.length - k=(l.length - (k+1))+1 by omega,List.replicate_succ,List.set_append_right _ _ (by omega),hz,Nat.sub_self,List.set_cons_zero];simp
  have hhd2:∀ h,Hd l[k].params.length h→∀ (i:Nat) x y,l[i]?=some x→(hs++[h])[i]?=some y→Hd x.params.length y:=fun h hh i x y h1 h2=>by
   by_cases hik:i < hs.length
   ·rw [List.getElem?_append_left hik] at h2;exact hhd i x y h1 h2
   ·have h3:=(List.getElem?_eq_some_iff.1 h2).1
    rw [List.length_append,List.length_singleton] at h3
    have:i=k:=by omega
    subst this
    rw [List.getElem?_append_right (by omega),hhs,Nat.sub_self] at h2
    rw [hx] at h1
    cases h1;cases h2;exact hh
  clear hR
  have hob:=hzw toFnO
  unfold toFnR toFnO at hc
  generalize hlx:l[k]=x at *
  refine w_grun ?_
  refine w_gcallr [] (hc) ?_;rintro _ _ ⟨_,⟨a1,c1,rfl⟩,rfl,rfl⟩;refine w_gsim ?_
  refine w_grun ?_
  refine w_gsthn ?_
  refine w_grun ?_
  refine ⟨k+1,⟨_,_,Wk.frm w_wkf,_,Z,hs++[_],rfl,?_,hlt,by simp [hhs],hhd2 _ ⟨a1,c1,rfl⟩,hset _⟩,by show l.length - (k+1) < l.length - k;omega⟩
  rw [hob];rfl
 ·have hd2:decide ((k:Int) < ((l.map encFn).length:Int))=false:=by rw [hm];simpa using hlt
  have hke:k=l.length:=by omega
  subst hke
  rw [List.take_length,Nat.sub_self,List.replicate_zero,List.append_nil] at hR
  subst hR
  rw [List.take_length]
  refine w_grun ?_
  refine w_gexit ?_
  refine w_grun ?_
  (repeat (first | refine GW.ret ?_ | refine gthn_r ?_ | refine ginb_r ?_ | refine gthn_n ?_ | refine ginb_n ?_))
  refine gbp1D 0 rfl (by first | exact .inr rfl | exact .inl rfl) rfl (fun x hx=>?_) ⟨_,hs,⟨_,_,by rw [hm]⟩,hhs,hhd,rfl,rfl⟩
  rcases List.mem_cons.1 hx with rfl | hx
  ·rfl
  ·obtain ⟨i,hi⟩:=List.getElem?_of_mem hx
   rw [List.getElem?_zipWith] at hi
   split at hi
   ·cases hi;rfl
   ·cases hi
def toNodeR (x:Nd) (h:Value):List GV:=[.v (ii x.kind),.v (ii x.at_),.v (ii x.n),.v (sv x.s),.v h]
def toNodeO (x:Nd) (h:Value):Ob:=.vech 3 1 (intR x.kids) h
theorem toNode_o (x:Nd) (hp:x.kids.length≤1048576):GC Tryz.prog 101 [.agg (encNode x)] [] fun g Δ=>∃ h,Hd x.kids.length h∧g=.agg (toNodeR x h)∧Δ=[toNodeO x h]:=by
 have h0:=toIntS_o x.kids hp
 refine GC.enter Tryz.func101 Tryz.ntmps101 rfl (by simp only [gframe,grep,Nat.reduceSub];rfl) ?_
 refine w_grun ?_
 refine w_gcallr [] (h0) ?_;rintro _ _ ⟨_,⟨a1,c1,rfl⟩,rfl,rfl⟩;refine w_gsim ?_
 refine w_grun ?_
 (repeat (first | refine GW.ret ?_ | refine gthn_r ?_ | refine ginb_r ?_ | refine gthn_n ?_ | refine ginb_n ?_))
 refine gbpCD 3 rfl (by first | exact .inr rfl | exact .inl rfl) rfl rfl rfl rfl ?_ ?_
 ·intro x hx
  rw [List.mem_singleton.1 hx];rfl
 ·exact ⟨_,⟨_,_,rfl⟩,rfl,rfl⟩
theorem toNodeS_o (l:List Nd) (hl:l.length≤1048576) (he:∀ x∈l,x.kids.length≤1048576):GC Tryz.prog 51 [.sl 5 (l.map encNode)] [] fun g Δ=>∃ h hs,Hd l.length h∧hs.length=l.length∧(∀ (i:Nat) x y,l[i]?=some x→hs[i]?=some y→Hd x.kids.length y)∧g=.v h ∧
  Δ=.vech 61 5 (List.zipWith toNodeR l hs) h::List.zipWith toNodeO l hs:=by
 have hm:(l.map encNode).length=l.length:=by simp
 refine GC.enter Tryz.func51 Tryz.ntmps51 rfl (by simp only [gframe,grep,Nat.reduceSub];rfl) ?_
 refine w_grun ?_
 refine GL.mkN rfl ⟨by omega,by omega⟩ ?_;intro a c;refine w_gnmb ?_
 refine w_grun ?_
 refine GW.loop (fun k:Nat=>l.length - k) (fun k fr Γ=>∃ R Z hs,fr=[.sl 5 (l.map encNode),.any,.any,.v (.slice a (l.map encNode).length c),.v (ii (k:Nat)),.any,.any,.any,.any,.any,.any,.any,.any,.any,.any,.any,.any,.any,.any,.any,.any,.any,.any]∧Γ=.vech 61 5 R (.slice a (l.map encNode).length c)::List.zipWith toNodeO (l.take k) hs∧k≤l.length∧hs.length=k ∧
  (∀ (i:Nat) x y,l[i]?=some x→hs[i]?=some y→Hd x.kids.length y)∧R=List.zipWith toNodeR (l.take k) hs++List.replicate (l.length - k) Z) 0 ?_ ?_
 ·exact ⟨_,_,Wk.frm w_wkf,_,_,[],rfl,rfl,Nat.zero_le _,rfl,(fun i x y _ h=>by simp at h),by rw [hm];rfl⟩
 rintro k _ _ ⟨R,Z,hs,rfl,rfl,hk,hhs,hhd,hR⟩
 have hRl:R.length=l.length:=by rw [hR,List.length_append,List.length_zipWith,List.length_take,List.length_replicate];omega
 have hRn:R.length=(l.map encNode).length:=by rw [hm];exact hRl
 by_cases hlt:k < l.length
 ·have hx:l[k]?=some l[k]:=by simp [hlt]
  have hr:(l.map encNode)[k]?=some (encNode l[k]):=by rw [List.getElem?_map,hx];rfl
  have hd2:decide ((k:Int) < ((l.map encNode).length:Int))=true:=by rw [hm];simpa using hlt
  have hex:=he _ (List.mem_of_getElem? hx)
  have hc:=toNode_o l[k] hex
  have htk:l.take (k+1)=l.take k++[l[k]]:=by rw [List.take_add_one,hx];rfl
  have hzw:∀ {γ:Type} (f:Nd→Value→γ) (h:Value),List.zipWith f (l.take (k+1)) (hs++[h])=List.zipWith f (l.take k) hs++[f l[k] h]:=fun f h=>by
   rw [htk,List.zipWith_append (by rw [List.length_take];omega)];rfl
  have hset:∀ h,R.set k (toNodeR l[k] h)=List.zipWith toNodeR (l.take (k+1)) (hs++[h])++List.replicate (l.length - (k+1)) Z:=fun h=>by
   have hz:(List.zipWith toNodeR (l.take k) hs).length=k:=by rw [List.length_zipWith,List.length_take];omega
   rw [hR,hzw,show l.length - k=(l.length - (k+1))+1 by omega,List.replicate_succ,List.set_append_right _ _ (by omega),hz,Nat.sub_self,List.set_cons_zero];simp
  have hhd2:∀ h,Hd l[k].kids.length h→∀ (i:Nat) x y,l[i]?=some x→(hs++[h])[i]?=some y→Hd x.kids.length y:=fun h hh i x y h1 h2=>by
   by_cases hik:i < hs.length
   ·rw [List.getElem?_append_left hik] at h2;exact hhd i x y h1 h2
   ·have h3:=(List.getElem?_eq_some_iff.1 h2).1
    rw [List.length_append,List.length_singleton] at h3
    have:i=k:=by omega
    subst this
    rw [List.getElem?_append_right (by omega),hhs,Nat.sub_self] at h2
    rw [hx] at h1
    cases h1;cases h2;exact hh
  clear hR
  have hob:=hzw toNodeO
  unfold toNodeR toNodeO at hc
  generalize hlx:l[k]=x at *
  refine w_grun ?_
  refine w_gcallr [] (hc) ?_;rintro _ _ ⟨_,⟨a1,c1,rfl⟩,rfl,rfl⟩;refine w_gsim ?_
  refine w_grun ?_
  refine w_gsthn ?_
  refine w_grun ?_
  refine ⟨k+1,⟨_,_,Wk.frm w_wkf,_,Z,hs++[_],rfl,?_,hlt,by simp [hhs],hhd2 _ ⟨a1,c1,rfl⟩,hset _⟩,by show l.length - (k+1) < l.length - k;omega⟩
  rw [hob];rfl
 ·have hd2:decide ((k:Int) < ((l.map encNode).length:Int))=false:=by rw [hm];simpa using hlt
  have hke:k=l.length:=by omega
  subst hke
  rw [List.take_length,Nat.sub_self,List.replicate_zero,List.append_nil] at hR
  subst hR
  rw [List.take_length]
  refine w_grun ?_
  refine w_gexit ?_
  refine w_grun ?_
  (repeat (first | refine GW.ret ?_ | refine gthn_r ?_ | refine ginb_r ?_ | refine gthn_n ?_ | refine ginb_n ?_))
  refine gbp1D 0 rfl (by first | exact .inr rfl | exact .inl rfl) rfl (fun x hx=>?_) ⟨_,hs,⟨_,_,by rw [hm]⟩,hhs,hhd,rfl,rfl⟩
  rcases List.mem_cons.1 hx with rfl | hx
  ·rfl
  ·obtain ⟨i,hi⟩:=List.getElem?_of_mem hx
   rw [List.getElem?_zipWith] at hi
   split at hi
   ·cases hi;rfl
   ·cases hi
def srcO (p:Src) (hg ha hf hn:Value) (fs ns:List Value):List Ob :=
 .vech 9 1 (strR p.globals) hg::.vech 87 2 (p.arrays.map encAr) ha::.vech 89 3 (List.zipWith toFnR p.fns fs) hf::(List.zipWith toFnO p.fns fs++.vech 61 5 (List.zipWith toNodeR p.nodes ns) hn::List.zipWith toNodeO p.nodes ns)
structure SrcH (p:Src) (hg ha hf hn:Value) (fs ns:List Value):Prop where
 g:Hd p.globals.length hg
 a:Hd p.arrays.length ha
 f:Hd p.fns.length hf
 n:Hd p.nodes.length hn
 fl:fs.length=p.fns.length
 nl:ns.length=p.nodes.length
 fh:∀ (i:Nat) x y,p.fns[i]?=some x→fs[i]?=some y→Hd x.params.length y
 nh:∀ (i:Nat) x y,p.nodes[i]?=some x→ns[i]?=some y→Hd x.kids.length y
theorem zipO_isH {α:Type} {f:α→Value→Ob} (hf:∀ a h,(f a h).isH=true) {l:List α} {hs:List Value}:∀ x∈List.zipWith f l hs,x.isH=true:=fun x hx=>by
 obtain ⟨i,hi⟩:=List.getElem?_of_mem hx
 rw [List.getElem?_zipWith] at hi
 split at hi
 ·cases hi;exact hf _ _
 ·cases hi
theorem srcO_isH (p:Src) (hg ha hf hn:Value) (fs ns:List Value):∀ x∈srcO p hg ha hf hn fs ns,x.isH=true:=fun x hx=>by
 unfold srcO at hx
 rcases List.mem_cons.1 hx with rfl | hx
 ·rfl
 rcases List.mem_cons.1 hx with rfl | hx
 ·rfl
 rcases List.mem_cons.1 hx with rfl | hx
 ·rfl
 rcases List.mem_append.1 hx with hx | hx
 ·exact zipO_isH (fun _ _=>rfl) x hx
 rcases List.mem_cons.1 hx with rfl | hx
 ·rfl
 ·exact zipO_isH (fun _ _=>rfl) x hx
theorem zipO_ren {α:Type} {f:α→Value→Ob} (hf:∀ a h,(f a h).isH=true) {l:List α} {hs:List Value} (r:Nat→Nat):(List.zipWith f l hs).map (Ob.ren r)=List.zipWith f l hs:=by
 refine (List.map_congr_left fun x hx=>?_).trans (List.map_id _)
 have:=zipO_isH hf x hx
 cases x <;> first | rfl | cases this
theorem toSource_o (x:Src) (hg:x.globals.length≤1048576) (ha:x.arrays.length≤1048576) (hf:x.fns.length≤1048576) (hfp:∀ f∈x.fns,f.params.length≤1048576) (hn:x.nodes.length≤1048576) (hnk:∀ n∈x.nodes,n.kids.length≤1048576) :
  GC Tryz.prog 14 [.agg (encSrc x)] [] fun g Δ=>∃ hg ha hf hn fs ns,SrcH x hg ha hf hn fs ns∧g=.agg [.v hg,.v ha,.v hf,.v hn]∧Δ=srcO x hg ha hf hn fs ns:=by
 have h0:=toStringS_o x.globals hg
 have h1:=toArrayS_o x.arrays ha
 have h2:=toFnS_o x.fns hf hfp
 have h3:=toNodeS_o x.nodes hn hnk
 refine GC.enter Tryz.func14 Tryz.ntmps14 rfl (by simp only [gframe,grep,Nat.reduceSub];rfl) ?_
 refine w_grun ?_
 refine w_gcallr [] (h0) ?_;rintro _ _ ⟨_,⟨a0,c0,rfl⟩,rfl,rfl⟩;refine w_gsim ?_
 refine w_grun ?_
 refine w_gcallr [] (h1) ?_;rintro _ _ ⟨_,⟨a1,c1,rfl⟩,rfl,rfl⟩;refine w_gsim ?_
 refine w_grun ?_
 refine w_gcallr [] (h2) ?_
 rintro _ _ ⟨_,fs,⟨a2,c2,rfl⟩,e1,e2,rfl,rfl⟩
 rw [List.map_cons,zipO_ren (fun _ _=>rfl)]
 refine w_gsim ?_
 refine w_grun ?_
 refine w_gcallr [] (h3) ?_
 rintro _ _ ⟨_,ns,⟨a3,c3,rfl⟩,e3,e4,rfl,rfl⟩
 rw [List.map_cons,zipO_ren (fun _ _=>rfl)]
 refine w_gsim ?_
 refine w_grun ?_
 (repeat (first | refine GW.ret ?_ | refine gthn_r ?_ | refine ginb_r ?_ | refine gthn_n ?_ | refine ginb_n ?_))
 refine gbpCD 3 rfl (by first | exact .inr rfl | exact .inl rfl) rfl rfl rfl rfl ?_ ?_
 ·exact srcO_isH x _ _ _ _ fs ns
 ·exact ⟨_,_,_,_,fs,ns,⟨⟨_,_,rfl⟩,⟨_,_,rfl⟩,⟨_,_,rfl⟩,⟨_,_,rfl⟩,e1,e3,e2,e4⟩,rfl,rfl⟩
end Go.Xg
set_option maxHeartbeats 1000000
namespace Go.Xg
open Go.RowKit Go.Xw Go.Proofs
open Go.Xp (Tok Nd T signOf one levels Ar)
open Go.Sp
attribute [local irreducible] GW GL GO YG GC GA gthn ginb
theorem end_g (p:Src) (hp:p.nodes.length≤1000000000000) (hk:∀ n∈p.nodes,n.kids.length≤1000000000000):∀ (f a d:Nat) (e:Int),d≤801→endN p.nodes f a d=some e→GF Tryz.prog 132 [.agg (encSrc p),.v (ii (a:Nat)),.v (ii (d:Nat))] [] (.v (ii e)) []:=by
 intro f
 induction f using Nat.strongRecOn with
 | _ f ih =>
 intro a d e hd h
 cases f with
 | zero=>simp [endN] at h
 | succ f =>
 rw [endN] at h
 refine GC.enter Tryz.func132 Tryz.ntmps132 rfl (by simp only [gframe,grep,Nat.reduceSub];rfl) ?_
 by_cases h1:p.nodes.length≤a
 ·rw [if_pos (.inl h1)] at h
  cases h
  have h1':decide (((p.nodes.map encNode).length:Int)≤(a:Int))=true:=by simpa using h1
  refine w_grun ?_
  refine w_gret ?_
  exact ⟨rfl,rfl⟩
 have h1':decide (((p.nodes.map encNode).length:Int)≤(a:Int))=false:=by simpa using h1
 by_cases h2:d > 800
 ·rw [if_pos (.inr h2)] at h
  cases h
  have h2':decide ((800:Int) < (d:Int))=true:=by simpa using by omega
  refine w_grun ?_
  refine w_gret ?_
  exact ⟨rfl,rfl⟩
 have h2':decide ((800:Int) < (d:Int))=false:=by simpa using by omega
 rw [if_neg (by omega)] at h
 cases hn:p.nodes[a]? with
 | none=>rw [hn] at h;cases h
 | some n =>
 rw [hn] at h
 simp only at h
 have hr:=row_node hn
 have hkl:=hk n (List.mem_of_getElem? hn)
 refine w_grun ?_
 refine GW.range (n.kids.map fun i=>[GV.v (ii i)]).length (fun k fr Γ=>∃ nx g,fr=[.any,.v (ii (a:Nat)),.v (ii (d:Nat)),.loc 0 0,.any,.any,.any,.v (ii nx),.any,.any,.any,.any,.any,.any,.any,.any,.any,.any,.any,.any,.any,.any,.any,.any,.any,.any,ints n.kids,.v (ii ((n.kids.map fun i=>[GV.v (ii i)]).length:Int)),.v (ii (k:Nat)),.any,.any,.any,.any,.any,.any,.any,.any,.any,.any,.any,.any,.any,.any,.any] ∧
   Γ=[.box 28 (encSrc p)]∧0≤nx∧g≤f∧endL p.nodes g (n.kids.drop k) nx d=some e) ?_ (by simp;omega) ?_ ?_ ?_
 ·exact ⟨_,_,Wk.frm w_wkf,_,f,rfl,rfl,by omega,Nat.le_refl _,h⟩
 ·rintro k _ _ ⟨_,_,rfl,rfl,_⟩;exact ⟨rfl,rfl,rfl⟩
 ·rintro k _ _ hlt ⟨nx,g,rfl,rfl,hnx,hg,h⟩
  have hlt:k < n.kids.length:=by simpa using hlt
  have hx:n.kids[k]?=some n.kids[k]:=by simp [hlt]
  rw [List.drop_eq_getElem_cons hlt] at h
  generalize n.kids[k]=x at *
  have hri:=row_int hx
  cases g with
  | zero=>simp [endL] at h
  | succ g =>
  rw [endL] at h
  by_cases hxn:x=nx
  ·subst hxn
   rw [if_pos rfl] at h
   have hb:(x != x)=false:=by simp
   cases hst:endN p.nodes g x.toNat (d+1) with
   | none=>rw [hst] at h;cases h
   | some y =>
   rw [hst] at h
   simp only at h
   have hcall:=ih g (by omega) x.toNat (d+1) y (by omega) hst
   rw [Int.toNat_of_nonneg hnx] at hcall
   by_cases hy:y < 0
   ·rw [if_pos hy] at h
    cases h
    have hy':decide (y < (0:Int))=true:=by simpa using hy
    refine w_grun ?_
    refine w_gcall [] (hcall) ?_
    refine w_grun ?_
    refine w_gret ?_
    exact ⟨rfl,rfl⟩
   ·rw [if_neg hy] at h
    have hy':decide (y < (0:Int))=false:=by simpa using hy
    refine w_grun ?_
    refine w_gcall [] (hcall) ?_
    refine w_grun ?_
    exact ⟨rfl,rfl,_,_,Wk.frm w_wkf,_,g,rfl,rfl,by omega,by omega,h⟩
  ·rw [if_neg hxn] at h
   cases h
   have hb:(x != nx)=true:=by simpa using hxn
   refine w_grun ?_
   refine w_gret ?_
   exact ⟨rfl,rfl⟩
 ·rintro _ _ ⟨nx,g,rfl,rfl,hnx,hg,h⟩
  rw [List.length_map,List.drop_length] at h
  have hacc:nx=e:=by cases g <;> (rw [endL] at h;cases h;rfl)
  subst hacc
  refine w_grun ?_
  refine w_gret ?_
  exact ⟨rfl,rfl⟩
end Go.Xg
namespace Go.Xg
open Go.RowKit Go.Xw Go.Proofs
open Go.Xp (Tok Nd T signOf one levels Ar)
open Go.Sp
attribute [local irreducible] GW GL GO YG GC GA gthn ginb
theorem own_1 (a n:Int) (s:Str) (ks:List Int) (l:List T) (hs:s.length≤1099511627776) (hl:l.length≤1099511627776) (ha:decide (a < 0)=false):GF Tryz.prog 176 [.agg (cT (.mk ⟨1,a,n,s,ks⟩ l))] [] (.v (.bool (ownT (.mk ⟨1,a,n,s,ks⟩ l)))) []:=by
 have how:ownT (.mk ⟨1,a,n,s,ks⟩ l)=(decide ((0:Int)≤n)&&(decide (n≤2147483647)&&((s==[])&&((l.length:Int)==0)))):=by unfold ownT own;rw [if_neg (by show ¬ (decide (a < 0)=true);rw [ha];decide)];rfl
 rw [how]
 refine GC.enter Tryz.func176 Tryz.ntmps176 rfl (by simp only [gframe,grep,Nat.reduceSub];rfl) ?_
 cases h0:decide ((0:Int)≤n) with
 | false =>
  refine w_grun ?_
  refine w_gret ?_
  exact ⟨rfl,rfl⟩
 | true =>
  cases h1:decide (n≤2147483647) with
  | false =>
   refine w_grun ?_
   refine w_gret ?_
   exact ⟨rfl,rfl⟩
  | true =>
   cases h2:(s==[]) with
   | false =>
    refine w_grun ?_
    refine w_gret ?_
    exact ⟨rfl,rfl⟩
   | true =>
    refine w_grun ?_
    refine w_gret ?_
    exact ⟨by first | rfl | (rw [encTs_len];rfl),rfl⟩
theorem own_2 (a:Int) (s:Str) (ks:List Int) (l:List T) (hs:s.length≤1099511627776) (hl:l.length≤1099511627776) (ha:decide (a < 0)=false):GF Tryz.prog 176 [.agg (cT (.mk ⟨2,a,0,s,ks⟩ l))] [] (.v (.bool (ownT (.mk ⟨2,a,0,s,ks⟩ l)))) []:=by
 have how:ownT (.mk ⟨2,a,0,s,ks⟩ l)=(nameOk s&&((l.length:Int)==0)):=by unfold ownT own;rw [if_neg (by show ¬ (decide (a < 0)=true);rw [ha];decide)];rfl
 rw [how]
 refine GC.enter Tryz.func176 Tryz.ntmps176 rfl (by simp only [gframe,grep,Nat.reduceSub];rfl) ?_
 cases h0:nameOk s with
 | false =>
  refine w_grun ?_
  have hc:=NameOk_g s hs
  rw [h0] at hc
  refine w_gcall [] (hc) ?_
  refine w_grun ?_
  refine w_gret ?_
  exact ⟨rfl,rfl⟩
 | true =>
  refine w_grun ?_
  have hc:=NameOk_g s hs
  rw [h0] at hc
  refine w_gcall [] (hc) ?_
  refine w_grun ?_
  refine w_gret ?_
  exact ⟨by first | rfl | (rw [encTs_len];rfl),rfl⟩
theorem own_3 (a:Int) (s:Str) (ks:List Int) (l:List T) (hs:s.length≤1099511627776) (hl:l.length≤1099511627776) (ha:decide (a < 0)=false):GF Tryz.prog 176 [.agg (cT (.mk ⟨3,a,0,s,ks⟩ l))] [] (.v (.bool (ownT (.mk ⟨3,a,0,s,ks⟩ l)))) []:=by
 have how:ownT (.mk ⟨3,a,0,s,ks⟩ l)=(nameOk s&&(((l.length:Int)==1)&&kindsFrom 1 0 l)):=by unfold ownT own;rw [if_neg (by show ¬ (decide (a < 0)=true);rw [ha];decide)];rfl
 rw [how]
 refine GC.enter Tryz.func176 Tryz.ntmps176 rfl (by simp only [gframe,grep,Nat.reduceSub];rfl) ?_
 cases h0:nameOk s with
 | false =>
  refine w_grun ?_
  have hc:=NameOk_g s hs
  rw [h0] at hc
  refine w_gcall [] (hc) ?_
  refine w_grun ?_
  refine w_gret ?_
  exact ⟨rfl,rfl⟩
 | true =>
  cases h1:((l.length:Int)==1) with
  | false =>
   have h1':((((encTs l).length:Int)==1))=false:=by rw [←encTs_len l] at h1;exact h1
   refine w_grun ?_
   have hc:=NameOk_g s hs
   rw [h0] at hc
   refine w_gcall [] (hc) ?_
   refine w_grun ?_
   refine w_gret ?_
   exact ⟨rfl,rfl⟩
  | true =>
   have h1':((((encTs l).length:Int)==1))=true:=by rw [←encTs_len l] at h1;exact h1
   refine w_grun ?_
   have hc:=NameOk_g s hs
   rw [h0] at hc
   refine w_gcall [] (hc) ?_
   refine w_grun ?_
   have hc:=l08Kinds_g (.mk ⟨3,a,0,s,ks⟩ l) 1 hl
   refine w_gcall [] (hc) ?_
   refine w_grun ?_
   refine w_gret ?_
   exact ⟨by first | rfl | (rw [encTs_len];rfl),rfl⟩
theorem own_4 (a:Int) (s:Str) (ks:List Int) (l:List T) (hs:s.length≤1099511627776) (hl:l.length≤1099511627776) (ha:decide (a < 0)=false):GF Tryz.prog 176 [.agg (cT (.mk ⟨4,a,0,s,ks⟩ l))] [] (.v (.bool (ownT (.mk ⟨4,a,0,s,ks⟩ l)))) []:=by
 have how:ownT (.mk ⟨4,a,0,s,ks⟩ l)=(nameOk s&&kindsFrom l.length 0 l):=by unfold ownT own;rw [if_neg (by show ¬ (decide (a < 0)=true);rw [ha];decide)];rfl
 rw [how]
 refine GC.enter Tryz.func176 Tryz.ntmps176 rfl (by simp only [gframe,grep,Nat.reduceSub];rfl) ?_
 cases h0:nameOk s with
 | false =>
  refine w_grun ?_
  have hc:=NameOk_g s hs
  rw [h0] at hc
  refine w_gcall [] (hc) ?_
  refine w_grun ?_
  refine w_gret ?_
  exact ⟨rfl,rfl⟩
 | true =>
  refine w_grun ?_
  have hc:=NameOk_g s hs
  rw [h0] at hc
  refine w_gcall [] (hc) ?_
  refine w_grun ?_
  have hc:=l08Kinds_g (.mk ⟨4,a,0,s,ks⟩ l) (encTs l).length hl
  refine w_gcall [] (hc) ?_
  refine w_grun ?_
  refine w_gret ?_
  exact ⟨by first | rfl | (rw [encTs_len];rfl),rfl⟩
theorem own_6 (a:Int) (s:Str) (ks:List Int) (l:List T) (hs:s.length≤1099511627776) (hl:l.length≤1099511627776) (ha:decide (a < 0)=false):GF Tryz.prog 176 [.agg (cT (.mk ⟨6,a,0,s,ks⟩ l))] [] (.v (.bool (ownT (.mk ⟨6,a,0,s,ks⟩ l)))) []:=by
 have how:ownT (.mk ⟨6,a,0,s,ks⟩ l)=(anySign s&&(((l.length:Int)==2)&&kindsFrom 2 0 l)):=by unfold ownT own;rw [if_neg (by show ¬ (decide (a < 0)=true);rw [ha];decide)];rfl
 rw [how]
 refine GC.enter Tryz.func176 Tryz.ntmps176 rfl (by simp only [gframe,grep,Nat.reduceSub];rfl) ?_
 cases h0:anySign s with
 | false =>
  refine w_grun ?_
  have hc:=l08AnySign_g s
  rw [h0] at hc
  refine w_gcall [] (hc) ?_
  refine w_grun ?_
  refine w_gret ?_
  exact ⟨rfl,rfl⟩
 | true =>
  cases h1:((l.length:Int)==2) with
  | false =>
   have h1':((((encTs l).length:Int)==2))=false:=by rw [←encTs_len l] at h1;exact h1
   refine w_grun ?_
   have hc:=l08AnySign_g s
   rw [h0] at hc
   refine w_gcall [] (hc) ?_
   refine w_grun ?_
   refine w_gret ?_
   exact ⟨rfl,rfl⟩
  | true =>
   have h1':((((encTs l).length:Int)==2))=true:=by rw [←encTs_len l] at h1;exact h1
   refine w_grun ?_
   have hc:=l08AnySign_g s
   rw [h0] at hc
   refine w_gcall [] (hc) ?_
   refine w_grun ?_
   have hc:=l08Kinds_g (.mk ⟨6,a,0,s,ks⟩ l) 2 hl
   refine w_gcall [] (hc) ?_
   refine w_grun ?_
   refine w_gret ?_
   exact ⟨by first | rfl | (rw [encTs_len];rfl),rfl⟩
theorem own_7 (a:Int) (s:Str) (ks:List Int) (l:List T) (hs:s.length≤1099511627776) (hl:l.length≤1099511627776) (ha:decide (a < 0)=false):GF Tryz.prog 176 [.agg (cT (.mk ⟨7,a,0,s,ks⟩ l))] [] (.v (.bool (ownT (.mk ⟨7,a,0,s,ks⟩ l)))) []:=by
 have how:ownT (.mk ⟨7,a,0,s,ks⟩ l)=(nameOk s&&(((l.length:Int)==1)&&kindsFrom 1 0 l)):=by unfold ownT own;rw [if_neg (by show ¬ (decide (a < 0)=true);rw [ha];decide)];rfl
 rw [how]
 refine GC.enter Tryz.func176 Tryz.ntmps176 rfl (by simp only [gframe,grep,Nat.reduceSub];rfl) ?_
 cases h0:nameOk s with
 | false =>
  refine w_grun ?_
  have hc:=NameOk_g s hs
  rw [h0] at hc
  refine w_gcall [] (hc) ?_
  refine w_grun ?_
  refine w_gret ?_
  exact ⟨rfl,rfl⟩
 | true =>
  cases h1:((l.length:Int)==1) with
  | false =>
   have h1':((((encTs l).length:Int)==1))=false:=by rw [←encTs_len l] at h1;exact h1
   refine w_grun ?_
   have hc:=NameOk_g s hs
   rw [h0] at hc
   refine w_gcall [] (hc) ?_
   refine w_grun ?_
   refine w_gret ?_
   exact ⟨rfl,rfl⟩
  | true =>
   have h1':((((encTs l).length:Int)==1))=true:=by rw [←encTs_len l] at h1;exact h1
   refine w_grun ?_
   have hc:=NameOk_g s hs
   rw [h0] at hc
   refine w_gcall [] (hc) ?_
   refine w_grun ?_
   have hc:=l08Kinds_g (.mk ⟨7,a,0,s,ks⟩ l) 1 hl
   refine w_gcall [] (hc) ?_
   refine w_grun ?_
   refine w_gret ?_
   exact ⟨by first | rfl | (rw [encTs_len];rfl),rfl⟩
theorem own_8 (a:Int) (s:Str) (ks:List Int) (l:List T) (hs:s.length≤1099511627776) (hl:l.length≤1099511627776) (ha:decide (a < 0)=false):GF Tryz.prog 176 [.agg (cT (.mk ⟨8,a,0,s,ks⟩ l))] [] (.v (.bool (ownT (.mk ⟨8,a,0,s,ks⟩ l)))) []:=by
 have how:ownT (.mk ⟨8,a,0,s,ks⟩ l)=(nameOk s&&(((l.length:Int)==2)&&kindsFrom 2 0 l)):=by unfold ownT own;rw [if_neg (by show ¬ (decide (a < 0)=true);rw [ha];decide)];rfl
 rw [how]
 refine GC.enter Tryz.func176 Tryz.ntmps176 rfl (by simp only [gframe,grep,Nat.reduceSub];rfl) ?_
 cases h0:nameOk s with
 | false =>
  refine w_grun ?_
  have hc:=NameOk_g s hs
  rw [h0] at hc
  refine w_gcall [] (hc) ?_
  refine w_grun ?_
  refine w_gret ?_
  exact ⟨rfl,rfl⟩
 | true =>
  cases h1:((l.length:Int)==2) with
  | false =>
   have h1':((((encTs l).length:Int)==2))=false:=by rw [←encTs_len l] at h1;exact h1
   refine w_grun ?_
   have hc:=NameOk_g s hs
   rw [h0] at hc
   refine w_gcall [] (hc) ?_
   refine w_grun ?_
   refine w_gret ?_
   exact ⟨rfl,rfl⟩
  | true =>
   have h1':((((encTs l).length:Int)==2))=true:=by rw [←encTs_len l] at h1;exact h1
   refine w_grun ?_
   have hc:=NameOk_g s hs
   rw [h0] at hc
   refine w_gcall [] (hc) ?_
   refine w_grun ?_
   have hc:=l08Kinds_g (.mk ⟨8,a,0,s,ks⟩ l) 2 hl
   refine w_gcall [] (hc) ?_
   refine w_grun ?_
   refine w_gret ?_
   exact ⟨by first | rfl | (rw [encTs_len];rfl),rfl⟩
theorem own_10 (a:Int) (s:Str) (ks:List Int) (l:List T) (hs:s.length≤1099511627776) (hl:l.length≤1099511627776) (ha:decide (a < 0)=false):GF Tryz.prog 176 [.agg (cT (.mk ⟨10,a,0,s,ks⟩ l))] [] (.v (.bool (ownT (.mk ⟨10,a,0,s,ks⟩ l)))) []:=by
 have how:ownT (.mk ⟨10,a,0,s,ks⟩ l)=((s==[])&&(((l.length:Int)==2)&&kindsFrom 1 0 l)):=by unfold ownT own;rw [if_neg (by show ¬ (decide (a < 0)=true);rw [ha];decide)];rfl
 rw [how]
 refine GC.enter Tryz.func176 Tryz.ntmps176 rfl (by simp only [gframe,grep,Nat.reduceSub];rfl) ?_
 cases h0:(s==[]) with
 | false =>
  refine w_grun ?_
  refine w_gret ?_
  exact ⟨rfl,rfl⟩
 | true =>
  cases h1:((l.length:Int)==2) with
  | false =>
   have h1':((((encTs l).length:Int)==2))=false:=by rw [←encTs_len l] at h1;exact h1
   refine w_grun ?_
   refine w_gret ?_
   exact ⟨rfl,rfl⟩
  | true =>
   have h1':((((encTs l).length:Int)==2))=true:=by rw [←encTs_len l] at h1;exact h1
   refine w_grun ?_
   have hc:=l08Kinds_g (.mk ⟨10,a,0,s,ks⟩ l) 1 hl
   refine w_gcall [] (hc) ?_
   refine w_grun ?_
   refine w_gret ?_
   exact ⟨by first | rfl | (rw [encTs_len];rfl),rfl⟩
theorem own_11 (a:Int) (s:Str) (ks:List Int) (l:List T) (hs:s.length≤1099511627776) (hl:l.length≤1099511627776) (ha:decide (a < 0)=false):GF Tryz.prog 176 [.agg (cT (.mk ⟨11,a,0,s,ks⟩ l))] [] (.v (.bool (ownT (.mk ⟨11,a,0,s,ks⟩ l)))) []:=by
 have how:ownT (.mk ⟨11,a,0,s,ks⟩ l)=((s==[])&&(((l.length:Int)==1)&&kindsFrom 1 0 l)):=by unfold ownT own;rw [if_neg (by show ¬ (decide (a < 0)=true);rw [ha];decide)];rfl
 rw [how]
 refine GC.enter Tryz.func176 Tryz.ntmps176 rfl (by simp only [gframe,grep,Nat.reduceSub];rfl) ?_
 cases h0:(s==[]) with
 | false =>
  refine w_grun ?_
  refine w_gret ?_
  exact ⟨rfl,rfl⟩
 | true =>
  cases h1:((l.length:Int)==1) with
  | false =>
   have h1':((((encTs l).length:Int)==1))=false:=by rw [←encTs_len l] at h1;exact h1
   refine w_grun ?_
   refine w_gret ?_
   exact ⟨rfl,rfl⟩
  | true =>
   have h1':((((encTs l).length:Int)==1))=true:=by rw [←encTs_len l] at h1;exact h1
   refine w_grun ?_
   have hc:=l08Kinds_g (.mk ⟨11,a,0,s,ks⟩ l) 1 hl
   refine w_gcall [] (hc) ?_
   refine w_grun ?_
   refine w_gret ?_
   exact ⟨by first | rfl | (rw [encTs_len];rfl),rfl⟩
theorem own_12 (a:Int) (s:Str) (ks:List Int) (l:List T) (hs:s.length≤1099511627776) (hl:l.length≤1099511627776) (ha:decide (a < 0)=false):GF Tryz.prog 176 [.agg (cT (.mk ⟨12,a,0,s,ks⟩ l))] [] (.v (.bool (ownT (.mk ⟨12,a,0,s,ks⟩ l)))) []:=by
 have how:ownT (.mk ⟨12,a,0,s,ks⟩ l)=((s==[])&&(((l.length:Int)==1)&&kindsFrom 1 0 l)):=by unfold ownT own;rw [if_neg (by show ¬ (decide (a < 0)=true);rw [ha];decide)];rfl
 rw [how]
 refine GC.enter Tryz.func176 Tryz.ntmps176 rfl (by simp only [gframe,grep,Nat.reduceSub];rfl) ?_
 cases h0:(s==[]) with
 | false =>
  refine w_grun ?_
  refine w_gret ?_
  exact ⟨rfl,rfl⟩
 | true =>
  cases h1:((l.length:Int)==1) with
  | false =>
   have h1':((((encTs l).length:Int)==1))=false:=by rw [←encTs_len l] at h1;exact h1
   refine w_grun ?_
   refine w_gret ?_
   exact ⟨rfl,rfl⟩
  | true =>
   have h1':((((encTs l).length:Int)==1))=true:=by rw [←encTs_len l] at h1;exact h1
   refine w_grun ?_
   have hc:=l08Kinds_g (.mk ⟨12,a,0,s,ks⟩ l) 1 hl
   refine w_gcall [] (hc) ?_
   refine w_grun ?_
   refine w_gret ?_
   exact ⟨by first | rfl | (rw [encTs_len];rfl),rfl⟩
theorem own_13 (a:Int) (s:Str) (ks:List Int) (l:List T) (hs:s.length≤1099511627776) (hl:l.length≤1099511627776) (ha:decide (a < 0)=false):GF Tryz.prog 176 [.agg (cT (.mk ⟨13,a,0,s,ks⟩ l))] [] (.v (.bool (ownT (.mk ⟨13,a,0,s,ks⟩ l)))) []:=by
 have how:ownT (.mk ⟨13,a,0,s,ks⟩ l)=(nameOk s&&(((l.length:Int)==1)&&kindsFrom 1 0 l)):=by unfold ownT own;rw [if_neg (by show ¬ (decide (a < 0)=true);rw [ha];decide)];rfl
 rw [how]
 refine GC.enter Tryz.func176 Tryz.ntmps176 rfl (by simp only [gframe,grep,Nat.reduceSub];rfl) ?_
 cases h0:nameOk s with
 | false =>
  refine w_grun ?_
  have hc:=NameOk_g s hs
  rw [h0] at hc
  refine w_gcall [] (hc) ?_
  refine w_grun ?_
  refine w_gret ?_
  exact ⟨rfl,rfl⟩
 | true =>
  cases h1:((l.length:Int)==1) with
  | false =>
   have h1':((((encTs l).length:Int)==1))=false:=by rw [←encTs_len l] at h1;exact h1
   refine w_grun ?_
   have hc:=NameOk_g s hs
   rw [h0] at hc
   refine w_gcall [] (hc) ?_
   refine w_grun ?_
   refine w_gret ?_
   exact ⟨rfl,rfl⟩
  | true =>
   have h1':((((encTs l).length:Int)==1))=true:=by rw [←encTs_len l] at h1;exact h1
   refine w_grun ?_
   have hc:=NameOk_g s hs
   rw [h0] at hc
   refine w_gcall [] (hc) ?_
   refine w_grun ?_
   have hc:=l08Kinds_g (.mk ⟨13,a,0,s,ks⟩ l) 1 hl
   refine w_gcall [] (hc) ?_
   refine w_grun ?_
   refine w_gret ?_
   exact ⟨by first | rfl | (rw [encTs_len];rfl),rfl⟩
end Go.Xg
namespace Go.Xg
open Go.RowKit Go.Xw Go.Proofs
open Go.Xp (Tok Nd T signOf one levels Ar)
open Go.Sp
attribute [local irreducible] GW GL GO YG GC GA gthn ginb
theorem own_5 (a:Int) (s:Str) (ks:List Int) (l:List T) (hs:s.length≤1099511627776) (hl:l.length≤1099511627776) (ha:decide (a < 0)=false):GF Tryz.prog 176 [.agg (cT (.mk ⟨5,a,0,s,ks⟩ l))] [] (.v (.bool (ownT (.mk ⟨5,a,0,s,ks⟩ l)))) []:=by
 have how:ownT (.mk ⟨5,a,0,s,ks⟩ l)=((s==[45] || s==[33] || s==[126])&&(((l.length:Int)==1)&&kindsFrom 1 0 l)):=by unfold ownT own;rw [if_neg (by show ¬ (decide (a < 0)=true);rw [ha];decide)];rfl
 rw [how]
 refine GC.enter Tryz.func176 Tryz.ntmps176 rfl (by simp only [gframe,grep,Nat.reduceSub];rfl) ?_
 cases h1:(s==[45]) with
 | true =>
  cases h4:((l.length:Int)==1) with
  | false =>
   have h4':(((encTs l).length:Int)==1)=false:=by rw [←encTs_len l] at h4;exact h4
   refine w_grun ?_
   refine w_gret ?_
   exact ⟨rfl,rfl⟩
  | true =>
   have h4':(((encTs l).length:Int)==1)=true:=by rw [←encTs_len l] at h4;exact h4
   refine w_grun ?_
   have hc:=l08Kinds_g (.mk ⟨5,a,0,s,ks⟩ l) 1 hl
   refine w_gcall [] (hc) ?_
   refine w_grun ?_
   refine w_gret ?_
   exact ⟨rfl,rfl⟩
 | false =>
  cases h2:(s==[33]) with
  | true =>
   cases h4:((l.length:Int)==1) with
   | false =>
    have h4':(((encTs l).length:Int)==1)=false:=by rw [←encTs_len l] at h4;exact h4
    refine w_grun ?_
    refine w_gret ?_
    exact ⟨rfl,rfl⟩
   | true =>
    have h4':(((encTs l).length:Int)==1)=true:=by rw [←encTs_len l] at h4;exact h4
    refine w_grun ?_
    have hc:=l08Kinds_g (.mk ⟨5,a,0,s,ks⟩ l) 1 hl
    refine w_gcall [] (hc) ?_
    refine w_grun ?_
    refine w_gret ?_
    exact ⟨rfl,rfl⟩
  | false =>
   cases h3:(s==[126]) with
   | false =>
    refine w_grun ?_
    refine w_gret ?_
    exact ⟨rfl,rfl⟩
   | true =>
    cases h4:((l.length:Int)==1) with
    | false =>
     have h4':(((encTs l).length:Int)==1)=false:=by rw [←encTs_len l] at h4;exact h4
     refine w_grun ?_
     refine w_gret ?_
     exact ⟨rfl,rfl⟩
    | true =>
     have h4':(((encTs l).length:Int)==1)=true:=by rw [←encTs_len l] at h4;exact h4
     refine w_grun ?_
     have hc:=l08Kinds_g (.mk ⟨5,a,0,s,ks⟩ l) 1 hl
     refine w_gcall [] (hc) ?_
     refine w_grun ?_
     refine w_gret ?_
     exact ⟨rfl,rfl⟩
theorem own_9 (a:Int) (s:Str) (ks:List Int) (l:List T) (hs:s.length≤1099511627776) (hl:l.length≤1099511627776) (ha:decide (a < 0)=false):GF Tryz.prog 176 [.agg (cT (.mk ⟨9,a,0,s,ks⟩ l))] [] (.v (.bool (ownT (.mk ⟨9,a,0,s,ks⟩ l)))) []:=by
 have how:ownT (.mk ⟨9,a,0,s,ks⟩ l)=((s==[])&&((((l.length:Int)==2) || ((l.length:Int)==3))&&kindsFrom 1 0 l)):=by unfold ownT own;rw [if_neg (by show ¬ (decide (a < 0)=true);rw [ha];decide)];rfl
 rw [how]
 refine GC.enter Tryz.func176 Tryz.ntmps176 rfl (by simp only [gframe,grep,Nat.reduceSub];rfl) ?_
 cases h0:(s==[]) with
 | false =>
  refine w_grun ?_
  refine w_gret ?_
  exact ⟨rfl,rfl⟩
 | true =>
  cases h1:((l.length:Int)==2) with
  | true =>
   have h1':(((encTs l).length:Int)==2)=true:=by rw [←encTs_len l] at h1;exact h1
   refine w_grun ?_
   have hc:=l08Kinds_g (.mk ⟨9,a,0,s,ks⟩ l) 1 hl
   refine w_gcall [] (hc) ?_
   refine w_grun ?_
   refine w_gret ?_
   exact ⟨rfl,rfl⟩
  | false =>
   have h1':(((encTs l).length:Int)==2)=false:=by rw [←encTs_len l] at h1;exact h1
   cases h2:((l.length:Int)==3) with
   | true =>
    have h2':(((encTs l).length:Int)==3)=true:=by rw [←encTs_len l] at h2;exact h2
    refine w_grun ?_
    have hc:=l08Kinds_g (.mk ⟨9,a,0,s,ks⟩ l) 1 hl
    refine w_gcall [] (hc) ?_
    refine w_grun ?_
    refine w_gret ?_
    exact ⟨rfl,rfl⟩
   | false =>
    have h2':(((encTs l).length:Int)==3)=false:=by rw [←encTs_len l] at h2;exact h2
    refine w_grun ?_
    refine w_gret ?_
    exact ⟨rfl,rfl⟩
theorem own_14 (a:Int) (s:Str) (ks:List Int) (l:List T) (hs:s.length≤1099511627776) (hl:l.length≤1099511627776) (ha:decide (a < 0)=false):GF Tryz.prog 176 [.agg (cT (.mk ⟨14,a,0,s,ks⟩ l))] [] (.v (.bool (ownT (.mk ⟨14,a,0,s,ks⟩ l)))) []:=by
 have how:ownT (.mk ⟨14,a,0,s,ks⟩ l)=((l.all fun x=>isStmt x.n.kind)&&(s==[])):=by unfold ownT own;rw [if_neg (by show ¬ (decide (a < 0)=true);rw [ha];decide)];rfl
 rw [how]
 refine GC.enter Tryz.func176 Tryz.ntmps176 rfl (by simp only [gframe,grep,Nat.reduceSub];rfl) ?_
 refine w_grun ?_
 refine GW.range (encTs l).length (fun k fr Γ=>∃ n,fr=[.any,.loc 0 0,.any,.loc 1 0,.any,.any,.any,.any,.any,.any,.any,.any,.any,.any,.any,.any,.any,.any,.any,.any,.any,.any,.any,.any,.any,.any,.any,.any,.any,.any,.any,.any,.any,.any,.any,.any,.any,.any,.any,.any,.any,.any,.any,.any,.any,.any,.any,.any,.any,.any,.any,.any,.any,.any,.any,.any,.any,.any,.any,.any,.any,.any,.any,.any,.any,.any,.any,.any,.any,.any,.any,.any,.any,.any,.any,.any,.any,.any,.any,.any,.any,.any,.any,.any,.any,.any,.any,.any,.any,.any,.any,.any,.any,.any,.any,.any,.any,.any,.any,.any,.any,.any,.any,.any,.any,.any,.any,.any,.any,.any,.any,.any,.any,.any,.any,.any,.any,.any,.any,.any,.any,.any,.any,.any,.any,.any,.any,.any,.any,.any,.any,.any,.any,.any,.any,.any,.any,.any,.any,.any,.any,.any,.any,.any,.any,.any,.any,.any,.any,.any,.any,.any,.any,.any,.any,.any,.any,.any,.any,.any,.any,.any,.any,.any,.any,.any,.any,.any,.any,.any,.any,.any,.any,.any,.any,.any,.sl 6 (encTs l),.v (ii ((encTs l).length:Int)),.v (ii (k:Nat)),.any,.any,.any,.any,.any,.any,.any,.any,.any,.any,.any,.any]∧Γ=[.box 70 (cT (.mk ⟨14,a,0,s,ks⟩ l)),.box 61 n]∧n=encNode ⟨14,a,0,s,ks⟩∧((l.take k).all fun x=>isStmt x.n.kind)=true) ?_ (by rw [encTs_len];exact hl) ?_ ?_ ?_
 ·exact ⟨_,_,Wk.frm w_wkf,_,rfl,rfl,rfl,rfl⟩
 ·rintro k _ _ ⟨_,rfl,rfl,_⟩;exact ⟨rfl,rfl,rfl⟩
 ·rintro k _ _ hk ⟨_,rfl,rfl,rfl,hf⟩
  have hk:k < l.length:=by rw [encTs_len] at hk;exact hk
  have hx:l[k]?=some l[k]:=by simp [hk]
  have hr:=row_enc hx
  generalize l[k]=x at *
  have he:=l08IsStmt_g x.n.kind
  cases hb:isStmt x.n.kind with
  | true =>
   rw [hb] at he
   refine w_grun ?_
   refine w_gcall [] (he) ?_
   refine w_grun ?_
   exact ⟨rfl,rfl,_,_,(Wk.cut (n:=2) (Nat.le_of_ble_eq_true rfl) rfl).trans (Wk.frm w_wkf),_,rfl,rfl,rfl,by rw [List.take_add_one,hx,List.all_append,hf];simp only [Option.toList,List.all_cons,List.all_nil,hb];rfl⟩
  | false =>
   rw [hb] at he
   refine w_grun ?_
   refine w_gcall [] (he) ?_
   refine w_grun ?_
   refine w_gret ?_
   have ha:(l.all fun x=>isStmt x.n.kind)=false:=by
    rw [List.all_eq_false];exact ⟨x,List.mem_of_getElem? hx,by simp [hb]⟩
   rw [ha]
   exact ⟨rfl,rfl⟩
 ·rintro _ _ ⟨_,rfl,rfl,rfl,hf⟩
  have hf:(l.all fun x=>isStmt x.n.kind)=true:=by
   rw [List.take_of_length_le (by rw [encTs_len];omega)] at hf;exact hf
  rw [hf]
  refine w_grun ?_
  refine w_gret ?_
  exact ⟨rfl,rfl⟩
theorem own_x (k a n:Int) (s:Str) (ks:List Int) (l:List T) (hk:k=1∨k=2∨k=3∨k=4∨k=5∨k=6∨k=7∨k=8∨k=9∨k=10∨k=11∨k=12∨k=13∨k=14∨True) (hx:¬ (k=1∨k=2∨k=3∨k=4∨k=5∨k=6∨k=7∨k=8∨k=9∨k=10∨k=11∨k=12∨k=13∨k=14)) (ha:decide (a < 0)=false) (hn:(n != 0)=false):GF Tryz.prog 176 [.agg (cT (.mk ⟨k,a,n,s,ks⟩ l))] [] (.v (.bool (ownT (.mk ⟨k,a,n,s,ks⟩ l)))) []:=by
 simp only [not_or] at hx
 obtain ⟨h1,h2,h3,h4,h5,h6,h7,h8,h9,h10,h11,h12,h13,h14⟩:=hx
 have h1:(k==1)=false:=by simpa using h1
 have h1x:(k != 1)=true:=by simp only [bne,h1];rfl
 have h2:(k==2)=false:=by simpa using h2
 have h3:(k==3)=false:=by simpa using h3
 have h4:(k==4)=false:=by simpa using h4
 have h5:(k==5)=false:=by simpa using h5
 have h6:(k==6)=false:=by simpa using h6
 have h7:(k==7)=false:=by simpa using h7
 have h8:(k==8)=false:=by simpa using h8
 have h9:(k==9)=false:=by simpa using h9
 have h10:(k==10)=false:=by simpa using h10
 have h11:(k==11)=false:=by simpa using h11
 have h12:(k==12)=false:=by simpa using h12
 have h13:(k==13)=false:=by simpa using h13
 have h14:(k==14)=false:=by simpa using h14
 have how:ownT (.mk ⟨k,a,n,s,ks⟩ l)=false:=by
  show own ⟨k,a,n,s,ks⟩ _ _ _=_
  simp [own,h1,h2,h3,h4,h5,h6,h7,h8,h9,h10,h11,h12,h13,h14]
 rw [how]
 refine GC.enter Tryz.func176 Tryz.ntmps176 rfl (by simp only [gframe,grep,Nat.reduceSub];rfl) ?_
 refine w_grun ?_
 refine w_gret ?_
 exact ⟨rfl,rfl⟩
theorem own_a (k a n:Int) (s:Str) (ks:List Int) (l:List T) (ha:decide (a < 0)=true):GF Tryz.prog 176 [.agg (cT (.mk ⟨k,a,n,s,ks⟩ l))] [] (.v (.bool (ownT (.mk ⟨k,a,n,s,ks⟩ l)))) []:=by
 have how:ownT (.mk ⟨k,a,n,s,ks⟩ l)=false:=by
  show own ⟨k,a,n,s,ks⟩ _ _ _=_
  unfold own;rw [if_pos ha]
 rw [how]
 refine GC.enter Tryz.func176 Tryz.ntmps176 rfl (by simp only [gframe,grep,Nat.reduceSub];rfl) ?_
 refine w_grun ?_
 refine w_gret ?_
 exact ⟨rfl,rfl⟩
theorem own_n (k a n:Int) (s:Str) (ks:List Int) (l:List T) (ha:decide (a < 0)=false) (hk:(k != 1)=true) (hn:(n != 0)=true):GF Tryz.prog 176 [.agg (cT (.mk ⟨k,a,n,s,ks⟩ l))] [] (.v (.bool (ownT (.mk ⟨k,a,n,s,ks⟩ l)))) []:=by
 have how:ownT (.mk ⟨k,a,n,s,ks⟩ l)=false:=by
  show own ⟨k,a,n,s,ks⟩ _ _ _=_
  unfold own;rw [if_neg (by show ¬ (decide (a < 0)=true);rw [ha];decide),if_pos (by show ((k != 1)&&(n != 0))=true;rw [hk,hn];rfl)]
 rw [how]
 refine GC.enter Tryz.func176 Tryz.ntmps176 rfl (by simp only [gframe,grep,Nat.reduceSub];rfl) ?_
 refine w_grun ?_
 refine w_gret ?_
 exact ⟨rfl,rfl⟩
theorem l08Own_g (t:T) (hs:t.n.s.length≤1099511627776) (hl:t.kids.length≤1099511627776):GF Tryz.prog 176 [.agg (cT t)] [] (.v (.bool (ownT t))) []:=by
 obtain ⟨⟨k,a,n,s,ks⟩,l⟩:=t
 cases ha:decide (a < 0) with
 | true=>exact own_a k a n s ks l ha
 | false =>
 by_cases hk1:k=1
 ·subst hk1;exact own_1 a n s ks l hs hl ha
 by_cases hn:n=0
 ·subst hn
  by_cases h:k=1∨k=2∨k=3∨k=4∨k=5∨k=6∨k=7∨k=8∨k=9∨k=10∨k=11∨k=12∨k=13∨k=14
  ·rcases h with rfl | rfl | rfl | rfl | rfl | rfl | rfl | rfl | rfl | rfl | rfl | rfl | rfl | rfl
   ·exact absurd rfl hk1
   ·exact own_2 a s ks l hs hl ha
   ·exact own_3 a s ks l hs hl ha
   ·exact own_4 a s ks l hs hl ha
   ·exact own_5 a s ks l hs hl ha
   ·exact own_6 a s ks l hs hl ha
   ·exact own_7 a s ks l hs hl ha
   ·exact own_8 a s ks l hs hl ha
   ·exact own_9 a s ks l hs hl ha
   ·exact own_10 a s ks l hs hl ha
   ·exact own_11 a s ks l hs hl ha
   ·exact own_12 a s ks l hs hl ha
   ·exact own_13 a s ks l hs hl ha
   ·exact own_14 a s ks l hs hl ha
  ·exact own_x k a 0 s ks l (by simp) h ha rfl
 ·exact own_n k a n s ks l ha (by simpa using hk1) (by simpa using hn)
end Go.Xg
namespace Go.Xg
open Go.RowKit Go.Xw Go.Proofs
open Go.Xp (Tok Nd T signOf one levels Ar)
open Go.Sp
attribute [local irreducible] GW GL GO YG GC GA gthn ginb
theorem allTs_all (l:List T):allTs l=l.all allT:=by
 induction l with
 | nil=>simp [allTs]
 | cons a l ih=>simp [allTs,ih]
theorem l08All_n:∀ (sz:Nat) (t:T),SizeOf.sizeOf t≤sz→smT t→GF Tryz.prog 133 [.agg (cT t)] [] (.v (.bool (allT t))) []:=by
 intro sz
 induction sz with
 | zero=>intro t h _;cases t;simp at h
 | succ sz ih =>
 intro t hsz hsm
 obtain ⟨n,l⟩:=t
 have hsm':=hsm
 rw [smT] at hsm
 obtain ⟨hs,hl,hm⟩:=hsm
 have how:allT (.mk n l)=(allTs l&&ownT (.mk n l)):=by rw [allT]
 rw [how]
 rw [allTs_all]
 refine GC.enter Tryz.func133 Tryz.ntmps133 rfl (by simp only [gframe,grep,Nat.reduceSub];rfl) ?_
 refine w_grun ?_
 refine GW.range (encTs l).length (fun k fr Γ=>fr=[.any,.loc 0 0,.any,.any,.any,.any,.sl 6 (encTs l),.v (ii ((encTs l).length:Int)),.v (ii (k:Nat)),.any,.any,.any,.any,.any,.any,.any,.any,.any]∧Γ=[.box 70 (cT (.mk n l))]∧((l.take k).all allT)=true) ?_ (by rw [encTs_len];exact hl) ?_ ?_ ?_
 ·exact ⟨_,_,Wk.frm w_wkf,rfl,rfl,rfl⟩
 ·rintro k _ _ ⟨rfl,rfl,_⟩;exact ⟨rfl,rfl,rfl⟩
 ·rintro k _ _ hk ⟨rfl,rfl,hf⟩
  have hk:k < l.length:=by rw [encTs_len] at hk;exact hk
  have hx:l[k]?=some l[k]:=by simp [hk]
  have hmem:=List.mem_of_getElem? hx
  have hlt:=List.sizeOf_lt_of_mem hmem
  have hr:=row_enc hx
  have he:=ih l[k] (by simp at hsz;omega) (smTs_mem hm hmem)
  generalize l[k]=x at *
  cases hb:allT x with
  | true =>
   rw [hb] at he
   refine w_grun ?_
   refine w_gcall [] (he) ?_
   refine w_grun ?_
   exact ⟨rfl,rfl,_,_,(Wk.cut (n:=1) (Nat.le_of_ble_eq_true rfl) rfl).trans (Wk.frm w_wkf),rfl,rfl,by rw [List.take_add_one,hx,List.all_append,hf];simp only [Option.toList,List.all_cons,List.all_nil,hb];rfl⟩
  | false =>
   rw [hb] at he
   refine w_grun ?_
   refine w_gcall [] (he) ?_
   refine w_grun ?_
   refine w_gret ?_
   have ha:(l.all allT)=false:=by
    rw [List.all_eq_false];exact ⟨x,List.mem_of_getElem? hx,by simp [hb]⟩
   rw [ha]
   exact ⟨rfl,rfl⟩
 ·rintro _ _ ⟨rfl,rfl,hf⟩
  have hf:(l.all allT)=true:=by
   rw [List.take_of_length_le (by rw [encTs_len];omega)] at hf;exact hf
  rw [hf]
  refine w_grun ?_
  refine w_gcall [] (l08Own_g (.mk n l) hs hl) ?_
  refine w_grun ?_
  refine w_gret ?_
  exact ⟨rfl,rfl⟩
theorem l08All_g (t:T) (h:smT t):GF Tryz.prog 133 [.agg (cT t)] [] (.v (.bool (allT t))) []:=l08All_n _ t (Nat.le_refl _) h
end Go.Xg
namespace Go.Xg
open Go.RowKit Go.Xw Go.Proofs
open Go.Xp (Tok Nd T signOf one levels Ar)
open Go.Sp
attribute [local irreducible] GW GL GO YG GC GA gthn ginb
structure smSrc (p:Src):Prop where
 globals:p.globals.length≤1000000000000∧∀ s∈p.globals,s.length≤1000000000000
 arrays:p.arrays.length≤1000000000000∧∀ a∈p.arrays,a.name.length≤1000000000000
 fns:p.fns.length≤1000000000000∧∀ f∈p.fns,f.name.length≤1000000000000∧f.params.length≤1000000000000∧∀ s∈f.params,s.length≤1000000000000
 nodes:p.nodes.length≤1000000000000∧∀ n∈p.nodes,n.s.length≤1000000000000∧n.kids.length≤1000000000000
theorem row_str {l:List Str} {i:Nat} {s:Str} (h:l[i]?=some s):(l.map fun s=>[GV.v (sv s)])[i]?=some [.v (sv s)]:=by rw [List.getElem?_map,h];rfl
theorem row_ar {l:List Ar} {i:Nat} {s:Ar} (h:l[i]?=some s):(l.map encAr)[i]?=some (encAr s):=by rw [List.getElem?_map,h];rfl
theorem row_fn {l:List Go.Sp.Fn} {i:Nat} {s:Go.Sp.Fn} (h:l[i]?=some s):(l.map encFn)[i]?=some (encFn s):=by rw [List.getElem?_map,h];rfl
theorem all_step {α:Type} {l:List α} {q:α→Bool} {k:Nat} {x:α} (hx:l[k]?=some x) (hf:(l.take k).all q=true) (hb:q x=true):(l.take (k+1)).all q=true:=by
 rw [List.take_add_one,hx,List.all_append,hf];simp [hb]
theorem all_no {α:Type} {l:List α} {q:α→Bool} {k:Nat} {x:α} (hx:l[k]?=some x) (hb:q x=false):l.all q=false:=by
 rw [List.all_eq_false];exact ⟨x,List.mem_of_getElem? hx,by simp [hb]⟩
theorem l08Stand_g (p:Src) (hp:smSrc p) (b:Bool) (h:stand p=some b):GF Tryz.prog 89 [.agg (encSrc p)] [] (.v (.bool b)) []:=by
 unfold stand at h
 refine GC.enter Tryz.func89 Tryz.ntmps89 rfl (by simp only [gframe,grep,Nat.reduceSub];rfl) ?_
 refine w_grun ?_
 refine GW.range (p.globals.map fun s=>[GV.v (sv s)]).length (fun k fr Γ=>fr=[.any,.loc 0 0,.any,.v (ii 0),.any,.any,.any,.any,.any,.any,.any,.any,.any,.any,.any,strs p.globals,.v (ii ((p.globals.map fun s=>[GV.v (sv s)]).length:Int)),.v (ii (k:Nat)),.any,.any,.any,.any,.any,.any,.any,.any,.any,.any,.any,.any,.any,.any,.any,.any,.any,.any,.any,.any,.any,.any,.any,.any,.any,.any,.any,.any,.any,.any,.any,.any,.any,.any,.any,.any,.any,.any,.any,.any,.any,.any,.any,.any,.any,.any,.any,.any,.any,.any,.any,.any,.any,.any,.any,.any,.any,.any,.any,.any,.any,.any,.any,.any,.any,.any,.any,.any,.any,.any,.any,.any,.any,.any,.any,.any,.any,.any,.any,.any,.any,.any,.any,.any,.any,.any,.any]∧Γ=[.box 28 (encSrc p)]∧((p.globals.take k).all nameOk)=true) ?_ (by simpa using by have:=hp.globals.1;omega) ?_ ?_ ?_
 ·exact ⟨_,_,Wk.frm w_wkf,rfl,rfl,rfl⟩
 ·rintro k _ _ ⟨rfl,rfl,_⟩;exact ⟨rfl,rfl,rfl⟩
 ·rintro k _ _ hk ⟨rfl,rfl,hf⟩
  have hk:k < p.globals.length:=by simpa using hk
  have hx:p.globals[k]?=some p.globals[k]:=by simp [hk]
  have hr:=row_str hx
  have hl:=hp.globals.2 _ (List.mem_of_getElem? hx)
  generalize p.globals[k]=x at *
  have he:=NameOk_g x (by omega)
  cases hb:nameOk x with
  | true =>
   rw [hb] at he
   refine w_grun ?_
   refine w_gcall [] (he) ?_
   refine w_grun ?_
   exact ⟨rfl,rfl,_,_,Wk.frm w_wkf,rfl,rfl,all_step hx hf hb⟩
  | false =>
   rw [hb] at he
   rw [if_pos (show namesOk p.globals=false from all_no hx hb)] at h
   cases h
   refine w_grun ?_
   refine w_gcall [] (he) ?_
   refine w_grun ?_
   refine w_gret ?_
   exact ⟨rfl,rfl⟩
 ·rintro _ _ ⟨rfl,rfl,hf⟩
  rw [List.take_of_length_le (by simp)] at hf
  rw [if_neg (by rw [show namesOk p.globals=true from hf];decide)] at h
  refine w_grun ?_
  refine GW.range (p.arrays.map encAr).length (fun k fr Γ=>fr=[.any,.loc 0 0,.any,.v (ii 0),.any,.any,.any,.any,.any,.any,.any,.any,.any,.any,.any,.any,.any,.any,.any,.any,.any,.any,.any,.any,.any,.any,.sl 2 (p.arrays.map encAr),.v (ii ((p.arrays.map encAr).length:Int)),.v (ii (k:Nat)),.any,.any,.any,.any,.any,.any,.any,.any,.any,.any,.any,.any,.any,.any,.any,.any,.any,.any,.any,.any,.any,.any,.any,.any,.any,.any,.any,.any,.any,.any,.any,.any,.any,.any,.any,.any,.any,.any,.any,.any,.any,.any,.any,.any,.any,.any,.any,.any,.any,.any,.any,.any,.any,.any,.any,.any,.any,.any,.any,.any,.any,.any,.any,.any,.any,.any,.any,.any,.any,.any,.any,.any,.any,.any,.any,.any]∧Γ=[.box 28 (encSrc p)]∧((p.arrays.take k).all arOk)=true) ?_ (by simpa using by have:=hp.arrays.1;omega) ?_ ?_ ?_
  ·exact ⟨_,_,Wk.frm w_wkf,rfl,rfl,rfl⟩
  ·rintro k _ _ ⟨rfl,rfl,_⟩;exact ⟨rfl,rfl,rfl⟩
  ·rintro k _ _ hk ⟨rfl,rfl,hf⟩
   have hk:k < p.arrays.length:=by simpa using hk
   have hx:p.arrays[k]?=some p.arrays[k]:=by simp [hk]
   have hr:=row_ar hx
   have hl:=hp.arrays.2 _ (List.mem_of_getElem? hx)
   generalize p.arrays[k]=x at *
   have he:=NameOk_g x.name (by omega)
   cases hb:nameOk x.name with
   | false =>
    rw [hb] at he
    rw [if_pos (all_no hx (by simp [arOk,hb]))] at h
    cases h
    refine w_grun ?_
    refine w_gcall [] (he) ?_
    refine w_grun ?_
    refine w_gret ?_
    exact ⟨rfl,rfl⟩
   | true =>
    rw [hb] at he
    cases h1:decide (x.size < 0) with
    | true =>
     rw [if_pos (all_no hx (by simp only [arOk,hb,h1];rfl))] at h
     cases h
     refine w_grun ?_
     refine w_gcall [] (he) ?_
     refine w_grun ?_
     refine w_gret ?_
     exact ⟨rfl,rfl⟩
    | false =>
     cases h2:decide (2147483647 < x.size) with
     | true =>
      rw [if_pos (all_no hx (by simp only [arOk,hb,h1,h2];rfl))] at h
      cases h
      refine w_grun ?_
      refine w_gcall [] (he) ?_
      refine w_grun ?_
      refine w_gret ?_
      exact ⟨rfl,rfl⟩
     | false =>
      refine w_grun ?_
      refine w_gcall [] (he) ?_
      refine w_grun ?_
      exact ⟨rfl,rfl,_,_,(Wk.cut (n:=1) (Nat.le_of_ble_eq_true rfl) rfl).trans (Wk.frm w_wkf),rfl,rfl,all_step hx hf (by simp only [arOk,hb,h1,h2];rfl)⟩
  ·rintro _ _ ⟨rfl,rfl,hf⟩
   rw [List.take_of_length_le (by simp)] at hf
   rw [if_neg (by rw [hf];decide)] at h
   refine w_grun ?_
   refine GW.range (p.fns.map encFn).length (fun k fr Γ=>∃ nx,fr=[.any,.loc 0 0,.any,.v (ii nx),.any,.any,.any,.any,.any,.any,.any,.any,.any,.any,.any,.any,.any,.any,.any,.any,.any,.any,.any,.any,.any,.any,.any,.any,.any,.any,.any,.any,.any,.any,.any,.any,.any,.any,.any,.any,.any,.any,.any,.any,.any,.any,.any,.any,.sl 3 (p.fns.map encFn),.v (ii ((p.fns.map encFn).length:Int)),.v (ii (k:Nat)),.any,.any,.any,.any,.any,.any,.any,.any,.any,.any,.any,.any,.any,.any,.any,.any,.any,.any,.any,.any,.any,.any,.any,.any,.any,.any,.any,.any,.any,.any,.any,.any,.any,.any,.any,.any,.any,.any,.any,.any,.any,.any,.any,.any,.any,.any,.any,.any,.any,.any,.any,.any,.any,.any]∧Γ=[.box 28 (encSrc p)]∧0≤nx∧(match fnsStand p.nodes (p.fns.drop k) nx with | none=>none | some none=>some false | some (some next)=>some (next==(p.nodes.length:Int)&&decide (next≤800)))=some b) ?_ (by simpa using by have:=hp.fns.1;omega) ?_ ?_ ?_
   ·exact ⟨_,_,Wk.frm w_wkf,_,rfl,rfl,Int.le_refl _,h⟩
   ·rintro k _ _ ⟨_,rfl,rfl,_⟩;exact ⟨rfl,rfl,rfl⟩
   ·clear h hf
    rintro k _ _ hk ⟨nx,rfl,rfl,hnx,h⟩
    have hk:k < p.fns.length:=by simpa using hk
    have hx:p.fns[k]?=some p.fns[k]:=by simp [hk]
    have hr:=row_fn hx
    have hl:=hp.fns.2 _ (List.mem_of_getElem? hx)
    rw [List.drop_eq_getElem_cons hk,fnsStand] at h
    generalize p.fns[k]=x at *
    cases he:endN p.nodes (fN p.nodes) nx.toNat 0 with
    | none=>rw [he] at h;cases h
    | some e =>
    rw [he] at h
    simp only at h
    have hend:=end_g p hp.nodes.1 (fun n hn=>(hp.nodes.2 n hn).2) _ _ 0 _ (by omega) he
    rw [Int.toNat_of_nonneg hnx] at hend
    have hno:=NameOk_g x.name (by omega)
    by_cases h1:x.body=nx
    ·have h1':(x.body != nx)=false:=by simpa using h1
     cases hb:nameOk x.name with
     | false =>
      rw [hb] at hno
      rw [if_pos (.inr (.inl hb))] at h
      cases h
      refine w_grun ?_
      refine w_gcall [] (hend) ?_
      refine w_grun ?_
      refine w_gcall [] (hno) ?_
      refine w_grun ?_
      refine w_gret ?_
      exact ⟨rfl,rfl⟩
     | true =>
      rw [hb] at hno
      by_cases h2:e < 0
      ·have h2':decide (e < 0)=true:=by simpa using h2
       rw [if_pos (.inr (.inr h2))] at h
       cases h
       refine w_grun ?_
       refine w_gcall [] (hend) ?_
       refine w_grun ?_
       refine w_gcall [] (hno) ?_
       refine w_grun ?_
       refine w_gret ?_
       exact ⟨rfl,rfl⟩
      ·have h2':decide (e < 0)=false:=by simpa using h2
       rw [if_neg (by rw [hb];simp [h1,h2])] at h
       refine w_grun ?_
       refine w_gcall [] (hend) ?_
       refine w_grun ?_
       refine w_gcall [] (hno) ?_
       refine w_grun ?_
       refine GW.range (x.params.map fun s=>[GV.v (sv s)]).length (fun j fr Γ=>fr=[.any,.loc 0 0,.any,.v (ii nx),.any,.any,.any,.any,.any,.loc 1 0,.v (ii e),.any,.any,.any,.any,.any,.any,.any,.any,.any,.any,.any,.any,.any,.any,.any,.any,.any,.any,.any,.any,.any,.any,.any,.any,.any,.any,.any,.any,.any,.any,.any,.any,.any,.any,.any,.any,.any,.sl 3 (p.fns.map encFn),.v (ii ((p.fns.map encFn).length:Int)),.v (ii (k:Nat)),.any,.any,.any,.any,.any,.any,.any,.any,.any,.any,.any,.any,.any,.any,.any,.any,.any,.any,.any,.any,.any,strs x.params,.v (ii ((x.params.map fun s=>[GV.v (sv s)]).length:Int)),.v (ii (j:Nat)),.any,.any,.any,.any,.any,.any,.any,.any,.any,.any,.any,.any,.any,.any,.any,.any,.any,.any,.any,.any,.any,.any,.any,.any,.any,.any,.any,.any,.any,.any]∧Γ=[.box 28 (encSrc p),.box 89 (encFn x)]∧((x.params.take j).all nameOk)=true) ?_ (by simpa using by omega) ?_ ?_ ?_
       ·exact ⟨_,_,Wk.frm w_wkf,rfl,rfl,rfl⟩
       ·rintro k _ _ ⟨rfl,rfl,_⟩;exact ⟨rfl,rfl,rfl⟩
       ·rintro j _ _ hj ⟨rfl,rfl,hf⟩
        have hj:j < x.params.length:=by simpa using hj
        have hxs:x.params[j]?=some x.params[j]:=by simp [hj]
        have hrs:=row_str hxs
        have hls:=hl.2.2 _ (List.mem_of_getElem? hxs)
        generalize x.params[j]=y at *
        have hn2:=NameOk_g y (by omega)
        cases hb:nameOk y with
        | true =>
         rw [hb] at hn2
         refine w_grun ?_
         refine w_gcall [] (hn2) ?_
         refine w_grun ?_
         exact ⟨rfl,rfl,_,_,Wk.frm w_wkf,rfl,rfl,all_step hxs hf hb⟩
        | false =>
         rw [hb] at hn2
         rw [if_pos (show namesOk x.params=false from all_no hxs hb)] at h
         cases h
         refine w_grun ?_
         refine w_gcall [] (hn2) ?_
         refine w_grun ?_
         refine w_gret ?_
         exact ⟨rfl,rfl⟩
       ·rintro _ _ ⟨rfl,rfl,hf⟩
        rw [List.take_of_length_le (by simp)] at hf
        rw [if_neg (by rw [show namesOk x.params=true from hf];decide)] at h
        cases hs:sub p.nodes (fN p.nodes) nx.toNat with
        | none=>rw [hs] at h;cases h
        | some t =>
        rw [hs] at h
        simp only at h
        have hsub:=sub_g p (fun n hn=>(hp.nodes.2 n hn).2) _ _ _ hs
        rw [Int.toNat_of_nonneg hnx] at hsub
        have hall:=l08All_g t ((sub_sm (fun n hn=>by have:=hp.nodes.2 n hn;omega) _).1 _ _ hs)
        by_cases h3:t.n.kind=14
        ·have h3':(t.n.kind != 14)=false:=by simpa using h3
         cases hb:allT t with
         | false =>
          rw [hb] at hall
          rw [if_pos (.inr hb)] at h
          cases h
          refine w_grun ?_
          refine w_gcall [] (hsub) ?_
          refine w_grun ?_
          refine w_gcall [] (hall) ?_
          refine w_grun ?_
          refine w_gret ?_
          exact ⟨rfl,rfl⟩
         | true =>
          rw [hb] at hall
          rw [if_neg (by rw [hb];simp [h3])] at h
          refine w_grun ?_
          refine w_gcall [] (hsub) ?_
          refine w_grun ?_
          refine w_gcall [] (hall) ?_
          refine w_grun ?_
          exact ⟨rfl,rfl,_,_,(Wk.cut (n:=1) (Nat.le_of_ble_eq_true rfl) rfl).trans (Wk.frm w_wkf),_,rfl,rfl,by omega,h⟩
        ·have h3':(t.n.kind != 14)=true:=by simpa using h3
         rw [if_pos (.inl h3)] at h
         cases h
         refine w_grun ?_
         refine w_gcall [] (hsub) ?_
         refine w_grun ?_
         refine w_gret ?_
         exact ⟨rfl,rfl⟩
    ·have h1':(x.body != nx)=true:=by simpa using h1
     rw [if_pos (.inl h1)] at h
     cases h
     refine w_grun ?_
     refine w_gcall [] (hend) ?_
     refine w_grun ?_
     refine w_gret ?_
     exact ⟨rfl,rfl⟩
   ·clear h hf
    rintro _ _ ⟨nx,rfl,rfl,hnx,h⟩
    rw [List.length_map,List.drop_length,fnsStand] at h
    simp only at h
    cases h
    cases h1:(nx==(p.nodes.length:Int)) with
    | false =>
     have h1':(nx==((p.nodes.map encNode).length:Int))=false:=by rw [List.length_map];exact h1
     refine w_grun ?_
     refine w_gret ?_
     exact ⟨rfl,rfl⟩
    | true =>
     have h1':(nx==((p.nodes.map encNode).length:Int))=true:=by rw [List.length_map];exact h1
     refine w_grun ?_
     refine w_gret ?_
     exact ⟨rfl,rfl⟩
end Go.Xg
namespace Go.Xg
open Go.RowKit Go.Xw Go.Proofs
open Go.Xp (Tok Nd T signOf one levels Ar)
open Go.Sp
attribute [local irreducible] GW GL GO YG GC GA gthn ginb
def tightOf (k:Int) (s:Str):Int:=if k=6 then (match levels.findIdx? (fun l=>l.contains s) with | some i=>(i:Int) | none => -1) else 9
theorem l08Tight_g (t:T):GF Tryz.prog 91 [.agg (cT t)] [] (.v (.int .i64 (tightOf t.n.kind t.n.s))) []:=by
 refine GC.enter Tryz.func91 Tryz.ntmps91 rfl (by simp only [gframe,grep,Nat.reduceSub];rfl) ?_
 by_cases h6:t.n.kind=6
 ·have h6':(t.n.kind != 6)=false:=by simpa using h6
  unfold tightOf
  rw [if_pos h6]
  refine w_grun ?_
  refine w_gcall [] (l08Levels_g) ?_
  refine w_grun ?_
  refine GW.range (levels.map fun l=>[strs l]).length (fun k fr Γ=>fr=[.any,.loc 0 0,.any,.any,.any,.any,.any,.any,.any,.any,.any,.sl 1 (levels.map fun l=>[strs l]),.v (ii ((levels.map fun l=>[strs l]).length:Int)),.v (ii (k:Nat)),.any,.any,.any,.any,.any,.any,.any,.any,.any,.any,.any]∧Γ=[.box 70 (cT t)]∧((levels.take k).any fun l=>l.contains t.n.s)=false) ?_ (by decide) ?_ ?_ ?_
  ·exact ⟨_,_,Wk.frm w_wkf,rfl,rfl,rfl⟩
  ·rintro k _ _ ⟨rfl,rfl,_⟩;exact ⟨rfl,rfl,rfl⟩
  ·rintro k _ _ hk ⟨rfl,rfl,hf⟩
   have hk:k < levels.length:=by simpa using hk
   have hx:levels[k]?=some levels[k]:=by simp [hk]
   have hr:(levels.map fun l=>[strs l])[k]?=some [strs levels[k]]:=by simp [hk]
   have hxl:levels[k].length≤1099511627776:=by
    have:∀ l∈levels,l.length≤1099511627776:=by decide
    exact this _ (List.getElem_mem hk)
   have hfi:levels[k].contains t.n.s=true→levels.findIdx? (fun l=>l.contains t.n.s)=some k:=by
    intro hc
    rw [List.findIdx?_eq_some_iff_getElem]
    refine ⟨hk,hc,fun j hj=>?_⟩
    rw [List.any_eq_false] at hf
    refine hf _ ?_
    rw [List.mem_take_iff_getElem]
    exact ⟨j,by omega,rfl⟩
   generalize levels[k]=x at *
   have hh:=l07Has_g x t.n.s hxl
   cases hb:x.contains t.n.s with
   | true =>
    rw [hb] at hh
    rw [hfi hb]
    refine w_grun ?_
    refine w_gcall [] (hh) ?_
    refine w_grun ?_
    refine w_gret ?_
    exact ⟨rfl,rfl⟩
   | false =>
    rw [hb] at hh
    refine w_grun ?_
    refine w_gcall [] (hh) ?_
    refine w_grun ?_
    exact ⟨rfl,rfl,_,_,Wk.frm w_wkf,rfl,rfl,by rw [List.take_add_one,hx,List.any_append,hf];simp only [Option.toList,List.any_cons,List.any_nil,hb];rfl⟩
  ·rintro _ _ ⟨rfl,rfl,hf⟩
   rw [List.take_of_length_le (by simp)] at hf
   have hn:levels.findIdx? (fun l=>l.contains t.n.s)=none:=by
    rw [List.findIdx?_eq_none_iff];intro x hx;rw [List.any_eq_false] at hf;simpa using hf x hx
   rw [hn]
   refine w_grun ?_
   refine w_gret ?_
   exact ⟨rfl,rfl⟩
 ·have h6':(t.n.kind != 6)=true:=by simpa using h6
  unfold tightOf
  rw [if_neg h6]
  refine w_grun ?_
  refine w_gcall [] (l08Levels_g) ?_
  refine w_grun ?_
  refine w_gret ?_
  exact ⟨rfl,rfl⟩
end Go.Xg
namespace Go.Xg
open Go.RowKit Go.Xw Go.Proofs
open Go.Xp (Tok Nd T signOf one levels Ar wrp32 digs digs_len)
open Go.Sp
attribute [local irreducible] GW GL GO YG GC GA gthn ginb
theorem Plain_g (n:Int):GF Tryz.prog 155 [.v (ii n)] [] (.v (ii (n % 4294967296))) []:=by
 refine GC.enter Tryz.func155 Tryz.ntmps155 rfl (by simp only [gframe,grep,Nat.reduceSub];rfl) ?_
 refine w_grun ?_
 refine w_gret ?_
 exact ⟨rfl,rfl⟩
theorem Wrap_g (n:Int):GF Tryz.prog 112 [.v (ii n)] [] (.v (ii (wrp32 n))) []:=by
 unfold wrp32
 have hb:0≤n % 4294967296∧n % 4294967296 < 4294967296:=by omega
 have hp:=Plain_g n
 generalize n % 4294967296=m at *
 refine GC.enter Tryz.func112 Tryz.ntmps112 rfl (by simp only [gframe,grep,Nat.reduceSub];rfl) ?_
 by_cases h:m > 2147483647
 ·have h':decide ((2147483647:Int) < m)=true:=by simpa using h
  rw [if_pos h]
  refine w_grun ?_
  refine w_gcall [] (hp) ?_
  refine w_grun ?_
  refine w_gret ?_
  exact ⟨rfl,rfl⟩
 ·have h':decide ((2147483647:Int) < m)=false:=by simpa using h
  rw [if_neg h]
  refine w_grun ?_
  refine w_gcall [] (hp) ?_
  refine w_grun ?_
  refine w_gret ?_
  exact ⟨rfl,rfl⟩
theorem ofNat_row (k:Nat) (h:k≤57):[[GV.v (.int .u8 (k:Int))]]=[UInt8.ofNat k].map fun c=>[GV.v (.int .u8 (c.toNat:Int))]:=by
 have:(UInt8.ofNat k).toNat=k:=by simp;omega
 simp [this]
theorem l01Digits_g (n:Nat) (hn:n≤1099511627776):GF Tryz.prog 113 [.v (ii (n:Int))] [] (.v (sv (digs n))) []:=by
 induction n using Nat.strongRecOn with
 | _ n ih =>
 unfold digs
 refine GC.enter Tryz.func113 Tryz.ntmps113 rfl (by simp only [gframe,grep,Nat.reduceSub];rfl) ?_
 by_cases h:n < 10
 ·have h':decide ((n:Int) < 10)=true:=by simpa using by omega
  have hw:=ofNat_row (48+n) (by omega)
  rw [Int.natCast_add] at hw
  rw [dif_pos h]
  refine w_grun ?_
  refine w_gmk ?_
  refine w_grun ?_
  refine w_gret ?_
  exact ⟨rfl,rfl⟩
 ·have h':decide ((n:Int) < 10)=false:=by simpa using by omega
  rw [dif_neg h]
  have hc:=ih (n / 10) (by omega) (by omega)
  have hl:=digs_len (n / 10)
  have hw:=ofNat_row (48+n % 10) (by omega)
  rw [Int.natCast_add] at hw
  refine w_grun ?_
  refine GW.draw (.q 0 (.q 1 (.q 3 (.q 4 (.q 5 (.q 6 (.f 2 (.a 7 (.q 8 (.q 9 (.q 10 .nil)))) 7 (.q 8 (.a 2 (.q 9 (.q 10 .nil))))))))))) (by kernel_rfl) (by kernel_rfl) ?_
  refine w_gorun ?_
  refine GO.fork ?_ ?_
  ·refine w_gocall [] (hc) ?_
   refine w_gorun ?_
   refine w_gomk ?_
   refine w_gorun ?_
   refine w_grun ?_
   refine w_gret ?_
   exact ⟨rfl,rfl⟩
  ·refine w_gomk ?_
   refine w_gorun ?_
   refine w_gocall [] (hc) ?_
   refine w_gorun ?_
   refine w_grun ?_
   refine w_gret ?_
   exact ⟨rfl,rfl⟩
end Go.Xg
namespace Go.Xg
open Go.RowKit Go.Xw Go.Proofs
open Go.Xp (Tok Nd T signOf one levels Ar wrp32 digs digs_len E S er ers wt wts brt lvOf joinC)
open Go.Sp
attribute [local irreducible] GW GL GO YG GC GA gthn ginb
theorem er_inv {nd:Nd} {l l':List T} {k v:Int} {s:Str} (h:er (.mk nd l)=.mk ⟨k,0,v,s,[]⟩ l'):nd.kind=k∧nd.n=v∧nd.s=s∧ers l=l':=by
 rw [er] at h
 injection h with h1 h2
 injection h1 with a b c d e
 exact ⟨a,c,d,h2⟩
theorem ers1 {l:List T} {x:T} (h:ers l=[x]):∃ t,l=[t]∧er t=x:=by
 match l,h with
 | [t],h=>rw [ers,ers] at h;injection h with h1;exact ⟨t,rfl,h1⟩
 | [],h=>rw [ers] at h;cases h
 | t::u::r,h=>rw [ers,ers] at h;injection h with h1 h2;cases h2
theorem ers2 {l:List T} {x y:T} (h:ers l=[x,y]):∃ t u,l=[t,u]∧er t=x∧er u=y:=by
 match l,h with
 | t::r,h =>
  rw [ers] at h;injection h with h1 h2
  obtain ⟨u,rfl,h3⟩:=ers1 h2
  exact ⟨t,u,rfl,h1,h3⟩
 | [],h=>rw [ers] at h;cases h
theorem ers3 {l:List T} {x y z:T} (h:ers l=[x,y,z]):∃ t u w,l=[t,u,w]∧er t=x∧er u=y∧er w=z:=by
 match l,h with
 | t::r,h =>
  rw [ers] at h;injection h with h1 h2
  obtain ⟨u,w,rfl,h3,h4⟩:=ers2 h2
  exact ⟨t,u,w,rfl,h1,h3,h4⟩
 | [],h=>rw [ers] at h;cases h
theorem tight_lv {a:E} (h:a.ok=true) {t:T} (ht:er t=a.tree):tightOf t.n.kind t.n.s=(a.lv:Int):=by
 obtain ⟨nd,l⟩:=t
 cases a with
 | bin s a b =>
  obtain ⟨h1,_,h2,_⟩:=er_inv ht
  simp only [E.ok,Bool.and_eq_true] at h
  have h9:=(Go.Xp.lvOf_spec h.1.1).1
  simp only [T.n,h1,h2,tightOf,if_pos,E.lv]
  unfold lvOf at h9 ⊢
  cases hf:levels.findIdx? (fun l=>l.contains s) with
  | none=>rw [hf] at h9;exact absurd h9 (by decide)
  | some i=>rfl
 | num n=>obtain ⟨h1,_⟩:=er_inv ht;simp only [T.n,h1,tightOf];rfl
 | name n=>obtain ⟨h1,_⟩:=er_inv ht;simp only [T.n,h1,tightOf];rfl
 | at_ s a=>obtain ⟨h1,_⟩:=er_inv ht;simp only [T.n,h1,tightOf];rfl
 | call s a=>obtain ⟨h1,_⟩:=er_inv ht;simp only [T.n,h1,tightOf];rfl
 | un s a=>obtain ⟨h1,_⟩:=er_inv ht;simp only [T.n,h1,tightOf];rfl
theorem tight_g {a:E} (h:a.ok=true) {t:T} (ht:er t=a.tree):GF Tryz.prog 91 [.agg (cT t)] [] (.v (ii (a.lv:Int))) []:=by
 have:=l08Tight_g t
 rw [tight_lv h ht] at this;exact this
theorem NumText_g (n:Int) (h:0≤n∧n≤2147483647):GF Tryz.prog 65 [.v (ii n)] [] (.v (sv (digs n.toNat))) []:=by
 have hw:=Wrap_g n
 have hw2:wrp32 n=n:=by unfold wrp32;rw [show n % 4294967296=n by omega,if_neg (by omega)]
 rw [hw2] at hw
 have hd:=l01Digits_g n.toNat (by omega)
 rw [Int.toNat_of_nonneg h.1] at hd
 have h':decide (n < 0)=false:=by simpa using h.1
 refine GC.enter Tryz.func65 Tryz.ntmps65 rfl (by simp only [gframe,grep,Nat.reduceSub];rfl) ?_
 refine w_grun ?_
 refine w_gcall [] (hw) ?_
 refine w_grun ?_
 refine w_gcall [] (hd) ?_
 refine w_grun ?_
 refine w_gret ?_
 exact ⟨rfl,rfl⟩
abbrev lim:Nat:=1000000000000
def LeastQ (a:E):Prop:=∀ (t:T) (k:Nat),a.ok=true→er t=a.tree→wt a.tree≤lim→¬ a.lv < k→GF Tryz.prog 40 [.agg (cT t),.v (ii (k:Int))] [] (.v (sv a.txt)) []
def LeastP (a:E):Prop:=∀ (t:T) (k:Nat),a.ok=true→er t=a.tree→wt a.tree≤lim→GF Tryz.prog 40 [.agg (cT t),.v (ii (k:Int))] [] (.v (sv (brt a.lv k a.txt))) []
theorem LeastQ.p {a:E} (C:LeastQ a):LeastP a:=by
 intro t k ho ht hb
 unfold brt
 by_cases h:a.lv < k
 ·rw [if_pos h]
  have h':decide ((a.lv:Int) < (k:Int))=true:=by simpa using h
  have hl:=(E.len a ho).1
  have h0:=C t 0 ho ht hb (by omega)
  have hbb:=hb
  unfold lim at hbb
  generalize a.txt=x at *
  refine GC.enter Tryz.func40 Tryz.ntmps40 rfl (by simp only [gframe,grep,Nat.reduceSub];rfl) ?_
  refine w_grun ?_
  refine w_gcall [] (tight_g ho ht) ?_
  refine w_grun ?_
  refine w_gcall [] (h0) ?_
  refine w_grun ?_
  refine w_gret ?_
  exact ⟨rfl,rfl⟩
 ·rw [if_neg h];exact C t k ho ht hb h
theorem least_num (n:Int):LeastQ (.num n):=by
 intro t k ho ht hb h
 have h':decide (((E.num n).lv:Int) < (k:Int))=false:=by simpa using h
 have hg:=tight_g ho ht
 obtain ⟨⟨kk,aa,vv,ss,ks⟩,l⟩:=t
 obtain ⟨h1,h2,h3,hl⟩:=er_inv ht
 simp only at h1 h2 h3
 subst h1 h2 h3
 simp only [E.ok,Bool.and_eq_true] at ho
 have hn:=NumText_g vv ⟨of_decide_eq_true ho.1,of_decide_eq_true ho.2⟩
 rw [E.txt]
 simp only [cT,T.n,T.kids] at hg ⊢
 refine GC.enter Tryz.func40 Tryz.ntmps40 rfl (by simp only [gframe,grep,Nat.reduceSub];rfl) ?_
 refine w_grun ?_
 refine w_gcall [] (hg) ?_
 refine w_grun ?_
 refine w_gcall [] (hn) ?_
 refine w_grun ?_
 refine w_gret ?_
 exact ⟨rfl,rfl⟩
theorem least_name (s:Str):LeastQ (.name s):=by
 intro t k ho ht hb h
 have h':decide (((E.name s).lv:Int) < (k:Int))=false:=by simpa using h
 have hg:=tight_g ho ht
 obtain ⟨⟨kk,aa,vv,ss,ks⟩,l⟩:=t
 obtain ⟨h1,h2,h3,hl⟩:=er_inv ht
 simp only at h1 h2 h3
 subst h1 h2 h3
 rw [E.txt]
 simp only [cT,T.n,T.kids] at hg ⊢
 refine GC.enter Tryz.func40 Tryz.ntmps40 rfl (by simp only [gframe,grep,Nat.reduceSub];rfl) ?_
 refine w_grun ?_
 refine w_gcall [] (hg) ?_
 refine w_grun ?_
 refine w_gret ?_
 exact ⟨rfl,rfl⟩
theorem least_at (s:Str) (a:E) (C:LeastP a):LeastQ (.at_ s a):=by
 intro t k ho ht hb h
 have h':decide (((E.at_ s a).lv:Int) < (k:Int))=false:=by simpa using h
 have hg:=tight_g ho ht
 obtain ⟨⟨kk,aa,vv,ss,ks⟩,l⟩:=t
 obtain ⟨h1,h2,h3,hl⟩:=er_inv ht
 simp only at h1 h2 h3
 subst h1 h2 h3
 obtain ⟨x,rfl,hx⟩:=ers1 hl
 simp only [E.ok,Bool.and_eq_true] at ho
 rw [E.tree,wt] at hb
 simp only [wts,lim] at hb
 have hc:=C x 0 ho.2 hx (by unfold lim;omega)
 unfold brt at hc
 rw [if_neg (by omega)] at hc
 have hle:=(E.len a ho.2).1
 have hr:(encTs [x])[0]?=some (cT x):=row_enc rfl
 rw [E.txt]
 generalize a.txt=y at *
 simp only [cT,T.n,T.kids] at hg ⊢
 refine GC.enter Tryz.func40 Tryz.ntmps40 rfl (by simp only [gframe,grep,Nat.reduceSub];rfl) ?_
 refine w_grun ?_
 refine w_gcall [] (hg) ?_
 refine w_grun ?_
 refine GW.draw (.q 0 (.q 1 (.q 2 (.q 3 (.q 4 (.q 5 (.q 6 (.q 7 (.a 8 (.q 9 (.q 10 (.q 11 .nil)))))))))))) (by kernel_rfl) (by kernel_rfl) ?_
 refine w_gorun ?_
 refine w_gocall [] (hc) ?_
 refine w_gorun ?_
 refine w_grun ?_
 refine w_gret ?_
 exact ⟨rfl,rfl⟩
theorem least_un (s:Str) (a:E) (C:LeastP a):LeastQ (.un s a):=by
 intro t k ho ht hb h
 have h':decide (((E.un s a).lv:Int) < (k:Int))=false:=by simpa using h
 have hg:=tight_g ho ht
 obtain ⟨⟨kk,aa,vv,ss,ks⟩,l⟩:=t
 obtain ⟨h1,h2,h3,hl⟩:=er_inv ht
 simp only at h1 h2 h3
 subst h1 h2 h3
 obtain ⟨x,rfl,hx⟩:=ers1 hl
 simp only [E.ok,Bool.and_eq_true] at ho
 rw [E.tree,wt] at hb
 simp only [wts,lim] at hb
 have hc:=C x 9 ho.2 hx (by unfold lim;omega)
 have hle:=(E.len a ho.2).1
 have hle2:=Go.Xp.brt_len a.lv 9 a.txt
 have hr:(encTs [x])[0]?=some (cT x):=row_enc rfl
 rw [E.txt]
 generalize brt a.lv 9 a.txt=y at *
 simp only [cT,T.n,T.kids] at hg ⊢
 refine GC.enter Tryz.func40 Tryz.ntmps40 rfl (by simp only [gframe,grep,Nat.reduceSub];rfl) ?_
 refine w_grun ?_
 refine w_gcall [] (hg) ?_
 refine w_grun ?_
 refine GW.draw (.q 0 (.q 1 (.q 2 (.q 3 (.q 4 (.q 5 (.q 6 (.q 7 (.a 8 (.q 9 (.a 10 (.q 11 (.q 12 .nil))))))))))))) (by kernel_rfl) (by kernel_rfl) ?_
 refine w_gorun ?_
 refine w_gocall [] (l08Levels_g) ?_
 refine w_gorun ?_
 refine w_gocall [] (hc) ?_
 refine w_gorun ?_
 refine w_grun ?_
 refine w_gret ?_
 exact ⟨rfl,rfl⟩
theorem least_bin (s:Str) (a b:E) (Ca:LeastP a) (Cb:LeastP b):LeastQ (.bin s a b):=by
 intro t k ho ht hb h
 have h':decide (((E.bin s a b).lv:Int) < (k:Int))=false:=by simpa using h
 have hg:=tight_g ho ht
 obtain ⟨⟨kk,aa,vv,ss,ks⟩,l⟩:=t
 obtain ⟨h1,h2,h3,hl⟩:=er_inv ht
 simp only at h1 h2 h3
 subst h1 h2 h3
 obtain ⟨x,y,rfl,hx,hy⟩:=ers2 hl
 simp only [E.ok,Bool.and_eq_true] at ho
 rw [E.tree,wt] at hb
 simp only [wts,lim] at hb
 have hca:=Ca x (lvOf ss) ho.1.2 hx (by unfold lim;omega)
 have hcb:=Cb y (lvOf ss+1) ho.2 hy (by unfold lim;omega)
 have hlv:=(Go.Xp.lvOf_spec ho.1.1).1
 have hle:=(E.len a ho.1.2).1
 have hle2:=Go.Xp.brt_len a.lv (lvOf ss) a.txt
 have hle3:=(E.len b ho.2).1
 have hle4:=Go.Xp.brt_len b.lv (lvOf ss+1) b.txt
 have hr:(encTs [x,y])[0]?=some (cT x):=row_enc rfl
 have hr2:(encTs [x,y])[1]?=some (cT y):=row_enc rfl
 rw [E.txt]
 simp only [E.lv] at hg h'
 generalize brt a.lv (lvOf ss) a.txt=u at *
 generalize brt b.lv (lvOf ss+1) b.txt=w at *
 simp only [cT,T.n,T.kids] at hg ⊢
 refine GC.enter Tryz.func40 Tryz.ntmps40 rfl (by simp only [gframe,grep,Nat.reduceSub];rfl) ?_
 refine w_grun ?_
 refine w_gcall [] (hg) ?_
 refine w_grun ?_
 refine w_gcall [] (hg) ?_
 refine w_grun ?_
 refine GW.draw (.q 0 (.q 1 (.q 2 (.q 3 (.q 4 (.q 7 (.q 8 (.q 9 (.q 12 (.q 13 (.q 14 (.q 15 (.q 16 (.q 17 (.a 5 (.q 6 (.q 10 (.q 11 (.a 18 (.q 19 (.q 20 .nil))))))))))))))))))))) (by kernel_rfl) (by kernel_rfl) ?_
 refine w_gorun ?_
 refine w_gocall [] (hca) ?_
 refine w_gorun ?_
 refine w_gocall [] (hcb) ?_
 refine w_gorun ?_
 refine w_grun ?_
 refine w_gret ?_
 exact ⟨rfl,rfl⟩
end Go.Xg
namespace Go.Xg
open Go.RowKit Go.Xw Go.Proofs
open Go.Xp (Tok Nd T signOf one levels Ar digs E S er ers wt wts brt lvOf joinC joinC_snoc joinC_take)
open Go.Sp
attribute [local irreducible] GW GL GO YG GC GA gthn ginb
def OutP (b:Bool) (a:E):Prop:=∀ t,er t=a.tree→GF Tryz.prog 138 [.agg (cT t),.v (.bool b)] [] (.v (sv (a.out b))) []
theorem ers_at:∀ {ts:List T} {es:List E} (h:ers ts=E.trees es),ts.length=es.length∧∀ (k:Nat) t a,ts[k]?=some t→es[k]?=some a→er t=a.tree
 | [],[],_=>⟨rfl,fun k t a h=>by simp at h⟩
 | [],a::l,h=>by rw [ers,E.trees] at h;cases h
 | t::r,[],h=>by rw [ers,E.trees] at h;cases h
 | t::r,a::l,h=>by
  rw [ers,E.trees] at h
  injection h with h1 h2
  obtain ⟨h3,h4⟩:=ers_at h2
  refine ⟨by simp [h3],fun k t' a' ht ha=>?_⟩
  cases k with
  | zero=>cases ht;cases ha;exact h1
  | succ k=>exact h4 k t' a' (by simpa using ht) (by simpa using ha)
theorem l08Join_g (b:Bool) (es:List E) (C:∀ a∈es,OutP b a) (ts:List T) (hts:ers ts=E.trees es) (hb:(joinC (es.map (E.out b))).length≤lim) (hn:es.length≤lim) :
  GF Tryz.prog 92 [.sl 6 (encTs ts),.v (.bool b)] [] (.v (sv (joinC (es.map (E.out b))))) []:=by
 obtain ⟨hlen,hat⟩:=ers_at hts
 unfold lim at hb hn
 refine GC.enter Tryz.func92 Tryz.ntmps92 rfl (by simp only [gframe,grep,Nat.reduceSub];rfl) ?_
 refine w_grun ?_
 refine GW.range (encTs ts).length (fun k fr Γ=>∃ y,fr=[.any,.v (.bool b),.any,.any,.any,.v (sv y),.any,.any,.sl 6 (encTs ts),.v (ii ((encTs ts).length:Int)),.v (ii (k:Nat)),.any,.any,.any,.any,.any,.any,.any,.any,.any,.any,.any,.any,.any,.any,.any]∧Γ=[]∧y=joinC ((es.map (E.out b)).take k)) ?_ (by rw [encTs_len];omega) ?_ ?_ ?_
 ·exact ⟨_,_,Wk.frm w_wkf,[],rfl,rfl,by simp [joinC]⟩
 ·rintro k _ _ ⟨y,rfl,rfl,_⟩;exact ⟨rfl,rfl,rfl⟩
 ·rintro k _ _ hk ⟨y,rfl,rfl,hy⟩
  have hk:k < es.length:=by rw [encTs_len,hlen] at hk;exact hk
  have hkt:k < ts.length:=by omega
  have hx:es[k]?=some es[k]:=by simp [hk]
  have ht:ts[k]?=some ts[k]:=by simp [hkt]
  have he:=hat k _ _ ht hx
  have hr:=row_enc ht
  have hc:=C _ (List.mem_of_getElem? hx) _ he
  have hjl:=joinC_take (es.map (E.out b)) (k+1)
  have hjl0:=joinC_take (es.map (E.out b)) k
  have htk:(es.map (E.out b)).take (k+1)=(es.map (E.out b)).take k++[es[k].out b]:=by
   rw [List.take_add_one,List.getElem?_map,hx];rfl
  rw [htk] at hjl
  generalize ts[k]=t at *
  generalize es[k]=a at *
  generalize a.out b=x at *
  by_cases h0:k=0
  ·subst h0
   have h0':decide ((0:Int) < ((0:Nat):Int))=false:=by decide
   have hj:joinC ((es.map (E.out b)).take 0++[x])=[]++x:=by simp [joinC]
   have hj0:joinC ((es.map (E.out b)).take 0)=[]:=by simp [joinC]
   rw [hj0] at hy
   subst hy
   rw [hj] at hjl
   have hjl:x.length≤(joinC (es.map (E.out b))).length:=by simpa using hjl
   refine w_grun ?_
   refine w_gcall [] (hc) ?_
   refine w_grun ?_
   exact ⟨rfl,rfl,_,_,(Wk.cut (n:=0) (Nat.le_of_ble_eq_true rfl) rfl).trans (Wk.frm w_wkf),_,rfl,rfl,by rw [htk,hj]⟩
  ·have h0':decide ((0:Int) < (k:Int))=true:=by simpa using by omega
   have hne:(es.map (E.out b)).take k≠[]:=by
    intro h
    rw [List.take_eq_nil_iff] at h
    rcases h with h | h
    ·exact h0 h
    ·rw [List.map_eq_nil_iff] at h;subst h;simp at hk
   have hj:=joinC_snoc hne x
   rw [hj] at hjl
   rw [←hy] at hjl hj hjl0
   simp only [List.length_append,List.length_cons,List.length_nil] at hjl
   refine w_grun ?_
   refine w_gcall [] (hc) ?_
   refine w_grun ?_
   exact ⟨rfl,rfl,_,_,(Wk.cut (n:=0) (Nat.le_of_ble_eq_true rfl) rfl).trans (Wk.frm w_wkf),_,rfl,rfl,by rw [htk,hj]⟩
 ·rintro _ _ ⟨y,rfl,rfl,hy⟩
  have:(es.map (E.out b)).take (encTs ts).length=es.map (E.out b):=List.take_of_length_le (by rw [encTs_len,hlen];simp)
  rw [this] at hy
  subst hy
  refine w_grun ?_
  refine w_gret ?_
  exact ⟨rfl,rfl⟩
theorem LeastP.out {a:E} (C:LeastP a) (ho:a.ok=true) (hb:wt a.tree≤lim):OutP true a:=by
 intro t ht
 have h0:=C t 0 ho ht hb
 unfold brt at h0
 rw [if_neg (by omega)] at h0
 show GF _ _ _ _ (.v (sv a.txt)) _
 refine GC.enter Tryz.func138 Tryz.ntmps138 rfl (by simp only [gframe,grep,Nat.reduceSub];rfl) ?_
 refine w_grun ?_
 refine w_gcall [] (h0) ?_
 refine w_grun ?_
 refine w_gret ?_
 exact ⟨rfl,rfl⟩
theorem wts_len:∀ l:List E,l.length≤wts (E.trees l)
 | []=>Nat.zero_le _
 | a::l=>by
  have:=wts_len l
  rw [E.trees,wts,List.length_cons]
  have:1≤wt a.tree:=by cases a <;> (rw [E.tree,wt];omega)
  omega
theorem wts_mem:∀ {l:List E} {a:E},a∈l→wt a.tree≤wts (E.trees l)
 | [],_,h=>by cases h
 | b::l,a,h=>by
  rw [E.trees,wts]
  rcases List.mem_cons.1 h with rfl | h
  ·omega
  ·have:=wts_mem h;omega
theorem oks_mem:∀ {l:List E} {a:E},E.oks l=true→a∈l→a.ok=true
 | [],_,_,h=>by cases h
 | b::l,a,ho,h=>by
  simp only [E.oks,Bool.and_eq_true] at ho
  rcases List.mem_cons.1 h with rfl | h
  ·exact ho.1
  ·exact oks_mem ho.2 h
theorem least_call (s:Str) (es:List E) (C:∀ a∈es,LeastP a):LeastQ (.call s es):=by
 intro t k ho ht hb h
 have h':decide (((E.call s es).lv:Int) < (k:Int))=false:=by simpa using h
 have hg:=tight_g ho ht
 obtain ⟨⟨kk,aa,vv,ss,ks⟩,l⟩:=t
 obtain ⟨h1,h2,h3,hl⟩:=er_inv ht
 simp only at h1 h2 h3
 subst h1 h2 h3
 simp only [E.ok,Bool.and_eq_true] at ho
 rw [E.tree,wt] at hb
 have hle:=(E.lens es ho.2).1
 have hn:=wts_len es
 have hmap:E.txts es=es.map (E.out true):=by rw [E.txts_map];rfl
 have hj:=l08Join_g true es (fun a ha=>(C a ha).out (oks_mem ho.2 ha) (by have:=wts_mem ha;omega)) l hl (by rw [←hmap];omega) (by omega)
 rw [←hmap] at hj
 unfold lim at hb
 simp only at hb
 rw [E.txt]
 generalize joinC (E.txts es)=y at *
 simp only [cT,T.n,T.kids] at hg ⊢
 refine GC.enter Tryz.func40 Tryz.ntmps40 rfl (by simp only [gframe,grep,Nat.reduceSub];rfl) ?_
 refine w_grun ?_
 refine w_gcall [] (hg) ?_
 refine w_grun ?_
 refine GW.draw (.q 0 (.q 1 (.q 2 (.q 3 (.q 4 (.q 5 (.a 6 (.q 7 (.q 8 (.q 9 .nil)))))))))) (by kernel_rfl) (by kernel_rfl) ?_
 refine w_gorun ?_
 refine w_gocall [] (hj) ?_
 refine w_gorun ?_
 refine w_grun ?_
 refine w_gret ?_
 exact ⟨rfl,rfl⟩
mutual
theorem leastP:∀ a:E,LeastP a
 | .num n=>(least_num n).p
 | .name s=>(least_name s).p
 | .at_ s a=>(least_at s a (leastP a)).p
 | .call s l=>(least_call s l (leastPs l)).p
 | .un s a=>(least_un s a (leastP a)).p
 | .bin s a b=>(least_bin s a b (leastP a) (leastP b)).p
theorem leastPs:∀ l:List E,∀ a∈l,LeastP a
 | []=>fun a h=>by cases h
 | b::l=>fun a h=>by
  rcases List.mem_cons.1 h with h | h
  ·rw [h];exact leastP b
  ·exact leastPs l a h
end
def FullP (a:E):Prop:=∀ (t:T),a.ok=true→er t=a.tree→wt a.tree≤lim→GF Tryz.prog 183 [.agg (cT t)] [] (.v (sv a.full)) []
theorem FullP.out {a:E} (C:FullP a) (ho:a.ok=true) (hb:wt a.tree≤lim):OutP false a:=by
 intro t ht
 have h0:=C t ho ht hb
 show GF _ _ _ _ (.v (sv a.full)) _
 refine GC.enter Tryz.func138 Tryz.ntmps138 rfl (by simp only [gframe,grep,Nat.reduceSub];rfl) ?_
 refine w_grun ?_
 refine w_gcall [] (h0) ?_
 refine w_grun ?_
 refine w_gret ?_
 exact ⟨rfl,rfl⟩
theorem full_num (n:Int):FullP (.num n):=by
 intro t ho ht hb
 obtain ⟨⟨kk,aa,vv,ss,ks⟩,l⟩:=t
 obtain ⟨h1,h2,h3,hl⟩:=er_inv ht
 simp only at h1 h2 h3
 subst h1 h2 h3
 simp only [E.ok,Bool.and_eq_true] at ho
 have hn:=NumText_g vv ⟨of_decide_eq_true ho.1,of_decide_eq_true ho.2⟩
 rw [E.full]
 simp only [cT,T.n,T.kids]
 refine GC.enter Tryz.func183 Tryz.ntmps183 rfl (by simp only [gframe,grep,Nat.reduceSub];rfl) ?_
 refine w_grun ?_
 refine w_gcall [] (hn) ?_
 refine w_grun ?_
 refine w_gret ?_
 exact ⟨rfl,rfl⟩
theorem full_name (s:Str):FullP (.name s):=by
 intro t ho ht hb
 obtain ⟨⟨kk,aa,vv,ss,ks⟩,l⟩:=t
 obtain ⟨h1,h2,h3,hl⟩:=er_inv ht
 simp only at h1 h2 h3
 subst h1 h2 h3
 rw [E.full]
 simp only [cT,T.n,T.kids]
 refine GC.enter Tryz.func183 Tryz.ntmps183 rfl (by simp only [gframe,grep,Nat.reduceSub];rfl) ?_
 refine w_grun ?_
 refine w_gret ?_
 exact ⟨rfl,rfl⟩
theorem full_at (s:Str) (a:E) (C:FullP a):FullP (.at_ s a):=by
 intro t ho ht hb
 obtain ⟨⟨kk,aa,vv,ss,ks⟩,l⟩:=t
 obtain ⟨h1,h2,h3,hl⟩:=er_inv ht
 simp only at h1 h2 h3
 subst h1 h2 h3
 obtain ⟨x,rfl,hx⟩:=ers1 hl
 simp only [E.ok,Bool.and_eq_true] at ho
 rw [E.tree,wt] at hb
 simp only [wts,lim] at hb
 have hc:=C x ho.2 hx (by unfold lim;omega)
 have hle:=(E.len a ho.2).2
 have hr:(encTs [x])[0]?=some (cT x):=row_enc rfl
 rw [E.full]
 generalize a.full=y at *
 simp only [cT,T.n,T.kids] at ⊢
 refine GC.enter Tryz.func183 Tryz.ntmps183 rfl (by simp only [gframe,grep,Nat.reduceSub];rfl) ?_
 refine w_grun ?_
 refine GW.draw (.q 0 (.q 1 (.q 2 (.q 3 (.q 4 (.q 5 (.q 6 (.q 7 (.a 8 (.q 9 (.q 10 (.q 11 .nil)))))))))))) (by kernel_rfl) (by kernel_rfl) ?_
 refine w_gorun ?_
 refine w_gocall [] (hc) ?_
 refine w_gorun ?_
 refine w_grun ?_
 refine w_gret ?_
 exact ⟨rfl,rfl⟩
theorem full_call (s:Str) (es:List E) (C:∀ a∈es,FullP a):FullP (.call s es):=by
 intro t ho ht hb
 obtain ⟨⟨kk,aa,vv,ss,ks⟩,l⟩:=t
 obtain ⟨h1,h2,h3,hl⟩:=er_inv ht
 simp only at h1 h2 h3
 subst h1 h2 h3
 simp only [E.ok,Bool.and_eq_true] at ho
 rw [E.tree,wt] at hb
 have hle:=(E.lens es ho.2).2
 have hn:=wts_len es
 have hmap:E.fulls es=es.map (E.out false):=by rw [E.fulls_map];rfl
 have hj:=l08Join_g false es (fun a ha=>(C a ha).out (oks_mem ho.2 ha) (by have:=wts_mem ha;omega)) l hl (by rw [←hmap];omega) (by omega)
 rw [←hmap] at hj
 unfold lim at hb
 simp only at hb
 rw [E.full]
 generalize joinC (E.fulls es)=y at *
 simp only [cT,T.n,T.kids] at ⊢
 refine GC.enter Tryz.func183 Tryz.ntmps183 rfl (by simp only [gframe,grep,Nat.reduceSub];rfl) ?_
 refine w_grun ?_
 refine GW.draw (.q 0 (.q 1 (.q 2 (.q 3 (.q 4 (.q 5 (.a 6 (.q 7 (.q 8 (.q 9 .nil)))))))))) (by kernel_rfl) (by kernel_rfl) ?_
 refine w_gorun ?_
 refine w_gocall [] (hj) ?_
 refine w_gorun ?_
 refine w_grun ?_
 refine w_gret ?_
 exact ⟨rfl,rfl⟩
theorem full_un (s:Str) (a:E) (C:FullP a):FullP (.un s a):=by
 intro t ho ht hb
 obtain ⟨⟨kk,aa,vv,ss,ks⟩,l⟩:=t
 obtain ⟨h1,h2,h3,hl⟩:=er_inv ht
 simp only at h1 h2 h3
 subst h1 h2 h3
 obtain ⟨x,rfl,hx⟩:=ers1 hl
 simp only [E.ok,Bool.and_eq_true] at ho
 rw [E.tree,wt] at hb
 simp only [wts,lim] at hb
 have hc:=C x ho.2 hx (by unfold lim;omega)
 have hle:=(E.len a ho.2).2
 have hr:(encTs [x])[0]?=some (cT x):=row_enc rfl
 rw [E.full]
 generalize a.full=y at *
 simp only [cT,T.n,T.kids] at ⊢
 refine GC.enter Tryz.func183 Tryz.ntmps183 rfl (by simp only [gframe,grep,Nat.reduceSub];rfl) ?_
 refine w_grun ?_
 refine GW.draw (.q 0 (.q 1 (.q 2 (.q 3 (.q 4 (.q 5 (.q 6 (.q 7 (.a 8 (.q 9 (.q 10 (.q 11 .nil)))))))))))) (by kernel_rfl) (by kernel_rfl) ?_
 refine w_gorun ?_
 refine w_gocall [] (hc) ?_
 refine w_gorun ?_
 refine w_grun ?_
 refine w_gret ?_
 exact ⟨rfl,rfl⟩
theorem full_bin (s:Str) (a b:E) (Ca:FullP a) (Cb:FullP b):FullP (.bin s a b):=by
 intro t ho ht hb
 obtain ⟨⟨kk,aa,vv,ss,ks⟩,l⟩:=t
 obtain ⟨h1,h2,h3,hl⟩:=er_inv ht
 simp only at h1 h2 h3
 subst h1 h2 h3
 obtain ⟨x,y,rfl,hx,hy⟩:=ers2 hl
 simp only [E.ok,Bool.and_eq_true] at ho
 rw [E.tree,wt] at hb
 simp only [wts,lim] at hb
 have hca:=Ca x ho.1.2 hx (by unfold lim;omega)
 have hcb:=Cb y ho.2 hy (by unfold lim;omega)
 have hle:=(E.len a ho.1.2).2
 have hle3:=(E.len b ho.2).2
 have hr:(encTs [x,y])[0]?=some (cT x):=row_enc rfl
 have hr2:(encTs [x,y])[1]?=some (cT y):=row_enc rfl
 rw [E.full]
 generalize a.full=u at *
 generalize b.full=w at *
 simp only [cT,T.n,T.kids] at ⊢
 refine GC.enter Tryz.func183 Tryz.ntmps183 rfl (by simp only [gframe,grep,Nat.reduceSub];rfl) ?_
 refine w_grun ?_
 refine GW.draw (.q 0 (.q 1 (.q 2 (.q 3 (.q 7 (.q 8 (.q 9 (.q 12 (.q 13 (.q 14 (.q 15 (.a 4 (.q 5 (.q 6 (.q 10 (.q 11 (.a 16 (.q 17 (.q 18 (.q 19 .nil)))))))))))))))))))) (by kernel_rfl) (by kernel_rfl) ?_
 refine w_gorun ?_
 refine w_gocall [] (hca) ?_
 refine w_gorun ?_
 refine w_gocall [] (hcb) ?_
 refine w_gorun ?_
 refine w_grun ?_
 refine w_gret ?_
 exact ⟨rfl,rfl⟩
mutual
theorem fullP:∀ a:E,FullP a
 | .num n=>full_num n
 | .name s=>full_name s
 | .at_ s a=>full_at s a (fullP a)
 | .call s l=>full_call s l (fullPs l)
 | .un s a=>full_un s a (fullP a)
 | .bin s a b=>full_bin s a b (fullP a) (fullP b)
theorem fullPs:∀ l:List E,∀ a∈l,FullP a
 | []=>fun a h=>by cases h
 | b::l=>fun a h=>by
  rcases List.mem_cons.1 h with h | h
  ·rw [h];exact fullP b
  ·exact fullPs l a h
end
theorem l08E_g (b:Bool) {a:E} (ho:a.ok=true) (hb:wt a.tree≤lim):OutP b a:=by
 cases b with
 | true=>exact (leastP a).out ho hb
 | false=>exact (fullP a).out ho hb
theorem out_len (b:Bool) (a:E) (ho:a.ok=true):(a.out b).length+4≤wt a.tree:=by
 have:=E.len a ho
 cases b with
 | true=>exact this.1
 | false=>exact this.2
end Go.Xg
