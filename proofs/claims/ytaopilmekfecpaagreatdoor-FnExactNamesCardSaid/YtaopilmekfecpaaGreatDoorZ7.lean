/- Part 7 of proofs that are told in their last texts. -/
import Derived.Test.YtaopilmekfecpaaGreatDoorZ6
import Derived.Test.YtaopilmekfecpaaGreatDoorZ3
set_option linter.unusedVariables false
set_option linter.unusedSimpArgs false
set_option maxHeartbeats 1000000
set_option maxRecDepth 100000
namespace Go.Xg
open Go.RowKit Go.Xw Go.Proofs
open Go.Xp (Tok Nd T signOf one levels Ar digs E S er ers wt wts blkTree blkTxt)
open Go.Sp
attribute [local irreducible] GW GL GO YG GC GA gthn ginb
theorem txts_ge (x:E→Go.Xp.Str):∀ (l:List S) (acc:Go.Xp.Str),acc.length≤(S.txts x acc l).length
 | [],acc=>by rw [S.txts];omega
 | a::l,acc=>by
  rw [S.txts]
  have:=txts_ge x l (acc++a.txt x++[32])
  simp only [List.length_append,List.length_cons,List.length_nil] at this;omega
def WriteS (b:Bool) (s:S):Prop:=∀ t,s.ok=true→er t=s.tree→wt s.tree≤lim→GF Tryz.prog 134 [.agg (cT t),.v (.bool b)] [] (.v (sv (s.txt (E.out b)))) []
def WriteB (b:Bool) (l:List S):Prop:=∀ t,S.oks l=true→er t=blkTree l→wt (blkTree l)≤lim→GF Tryz.prog 134 [.agg (cT t),.v (.bool b)] [] (.v (sv (blkTxt (E.out b) l))) []
theorem sers_at:∀ {ts:List T} {es:List S} (h:ers ts=S.trees es),ts.length=es.length∧∀ (k:Nat) t a,ts[k]?=some t→es[k]?=some a→er t=a.tree
 | [],[],_=>⟨rfl,fun k t a h=>by simp at h⟩
 | [],a::l,h=>by rw [ers,S.trees] at h;cases h
 | t::r,[],h=>by rw [ers,S.trees] at h;cases h
 | t::r,a::l,h=>by
  rw [ers,S.trees] at h
  injection h with h1 h2
  obtain ⟨h3,h4⟩:=sers_at h2
  refine ⟨by simp [h3],fun k t' a' ht ha=>?_⟩
  cases k with
  | zero=>cases ht;cases ha;exact h1
  | succ k=>exact h4 k t' a' (by simpa using ht) (by simpa using ha)
theorem swts_mem:∀ {l:List S} {a:S},a∈l→wt a.tree≤wts (S.trees l)
 | [],_,h=>by cases h
 | b::l,a,h=>by
  rw [S.trees,wts]
  rcases List.mem_cons.1 h with rfl | h
  ·omega
  ·have:=swts_mem h;omega
theorem swts_len:∀ l:List S,l.length≤wts (S.trees l)
 | []=>Nat.zero_le _
 | a::l=>by
  have:=swts_len l
  rw [S.trees,wts,List.length_cons]
  have:1≤wt a.tree:=by cases a <;> (rw [S.tree,wt];omega)
  omega
theorem soks_mem:∀ {l:List S} {a:S},S.oks l=true→a∈l→a.ok=true
 | [],_,_,h=>by cases h
 | b::l,a,ho,h=>by
  simp only [S.oks,Bool.and_eq_true] at ho
  rcases List.mem_cons.1 h with rfl | h
  ·exact ho.1
  ·exact soks_mem ho.2 h
theorem write_var (b:Bool) (s:Go.Xp.Str) (a:E):WriteS b (.var s a):=by
 intro t ho ht hb
 obtain ⟨⟨kk,aa,vv,ss,ks⟩,l⟩:=t
 obtain ⟨h1,h2,h3,hl⟩:=er_inv ht
 simp only at h1 h2 h3
 subst h1 h2 h3
 obtain ⟨x0,rfl,hx0⟩:=ers1 hl
 simp only [S.ok,Bool.and_eq_true] at ho
 rw [S.tree,wt] at hb
 simp only [wts,lim] at hb
 have hc0:=l08E_g b (a:=a) ho.2 (by unfold lim;omega) x0 hx0
 have hl0:=out_len b a ho.2
 have hr0:(encTs [x0])[0]?=some (cT x0):=row_enc rfl
 rw [S.txt]
 generalize a.out b=y0 at *
 simp only [cT,T.n,T.kids]
 refine GC.enter Tryz.func134 Tryz.ntmps134 rfl (by simp only [gframe,grep,Nat.reduceSub];rfl) ?_
 refine w_grun ?_
 refine GW.draw (.q 0 (.q 1 (.q 2 (.q 3 (.q 4 (.q 5 (.q 6 (.q 7 (.q 8 (.q 9 (.a 10 (.q 11 (.q 12 (.q 13 .nil)))))))))))))) (by kernel_rfl) (by kernel_rfl) ?_
 refine w_gorun ?_
 refine w_gocall [] (hc0) ?_
 refine w_gorun ?_
 refine w_grun ?_
 refine w_gret ?_
 exact ⟨rfl,rfl⟩
theorem write_set (b:Bool) (s:Go.Xp.Str) (a:E):WriteS b (.set s a):=by
 intro t ho ht hb
 obtain ⟨⟨kk,aa,vv,ss,ks⟩,l⟩:=t
 obtain ⟨h1,h2,h3,hl⟩:=er_inv ht
 simp only at h1 h2 h3
 subst h1 h2 h3
 obtain ⟨x0,rfl,hx0⟩:=ers1 hl
 simp only [S.ok,Bool.and_eq_true] at ho
 rw [S.tree,wt] at hb
 simp only [wts,lim] at hb
 have hc0:=l08E_g b (a:=a) ho.2 (by unfold lim;omega) x0 hx0
 have hl0:=out_len b a ho.2
 have hr0:(encTs [x0])[0]?=some (cT x0):=row_enc rfl
 rw [S.txt]
 generalize a.out b=y0 at *
 simp only [cT,T.n,T.kids]
 refine GC.enter Tryz.func134 Tryz.ntmps134 rfl (by simp only [gframe,grep,Nat.reduceSub];rfl) ?_
 refine w_grun ?_
 refine GW.draw (.q 0 (.q 1 (.q 2 (.q 3 (.q 4 (.q 5 (.q 6 (.q 7 (.q 8 (.a 9 (.q 10 (.q 11 (.q 12 .nil))))))))))))) (by kernel_rfl) (by kernel_rfl) ?_
 refine w_gorun ?_
 refine w_gocall [] (hc0) ?_
 refine w_gorun ?_
 refine w_grun ?_
 refine w_gret ?_
 exact ⟨rfl,rfl⟩
theorem write_put (b:Bool) (s:Go.Xp.Str) (a:E) (c:E):WriteS b (.put s a c):=by
 intro t ho ht hb
 obtain ⟨⟨kk,aa,vv,ss,ks⟩,l⟩:=t
 obtain ⟨h1,h2,h3,hl⟩:=er_inv ht
 simp only at h1 h2 h3
 subst h1 h2 h3
 obtain ⟨x0,x1,rfl,hx0,hx1⟩:=ers2 hl
 simp only [S.ok,Bool.and_eq_true] at ho
 rw [S.tree,wt] at hb
 simp only [wts,lim] at hb
 have hc0:=l08E_g b (a:=a) ho.2.1 (by unfold lim;omega) x0 hx0
 have hl0:=out_len b a ho.2.1
 have hr0:(encTs [x0,x1])[0]?=some (cT x0):=row_enc rfl
 have hc1:=l08E_g b (a:=c) ho.2.2 (by unfold lim;omega) x1 hx1
 have hl1:=out_len b c ho.2.2
 have hr1:(encTs [x0,x1])[1]?=some (cT x1):=row_enc rfl
 rw [S.txt]
 generalize a.out b=y0 at *
 generalize c.out b=y1 at *
 simp only [cT,T.n,T.kids]
 refine GC.enter Tryz.func134 Tryz.ntmps134 rfl (by simp only [gframe,grep,Nat.reduceSub];rfl) ?_
 refine w_grun ?_
 refine GW.draw (.q 0 (.q 1 (.q 2 (.q 3 (.q 4 (.q 5 (.q 6 (.q 7 (.q 8 (.q 12 (.q 13 (.q 14 (.q 15 (.q 16 (.a 9 (.q 10 (.q 11 (.a 17 (.q 18 (.q 19 (.q 20 .nil))))))))))))))))))))) (by kernel_rfl) (by kernel_rfl) ?_
 refine w_gorun ?_
 refine w_gocall [] (hc0) ?_
 refine w_gorun ?_
 refine w_gocall [] (hc1) ?_
 refine w_gorun ?_
 refine w_grun ?_
 refine w_gret ?_
 exact ⟨rfl,rfl⟩
theorem write_if1 (b:Bool) (c:E) (p:List S) (Cp:WriteB b p):WriteS b (.if1 c p):=by
 intro t ho ht hb
 obtain ⟨⟨kk,aa,vv,ss,ks⟩,l⟩:=t
 obtain ⟨h1,h2,h3,hl⟩:=er_inv ht
 simp only at h1 h2 h3
 subst h1 h2 h3
 obtain ⟨x0,x1,rfl,hx0,hx1⟩:=ers2 hl
 simp only [S.ok,Bool.and_eq_true] at ho
 rw [S.tree,wt] at hb
 simp only [wts,lim] at hb
 have hc0:=l08E_g b (a:=c) ho.1 (by unfold lim;omega) x0 hx0
 have hl0:=out_len b c ho.1
 have hr0:(encTs [x0,x1])[0]?=some (cT x0):=row_enc rfl
 have hc1:=Cp x1 ho.2 hx1 (by unfold lim blkTree;omega)
 have hl1:=Go.Xp.blk_len (E.out b) (out_len b) ho.2
 rw [blkTree] at hl1
 have hr1:(encTs [x0,x1])[1]?=some (cT x1):=row_enc rfl
 rw [S.txt]
 generalize c.out b=y0 at *
 change GF _ _ _ _ (.v (sv _)) _ at hc1
 unfold blkTxt at hc1 hl1
 generalize S.txts (E.out b) [123,32] p++[125]=y1 at *
 simp only [cT,T.n,T.kids]
 refine GC.enter Tryz.func134 Tryz.ntmps134 rfl (by simp only [gframe,grep,Nat.reduceSub];rfl) ?_
 refine w_grun ?_
 refine GW.draw (.q 0 (.q 1 (.q 2 (.q 3 (.q 4 (.q 8 (.q 9 (.q 10 (.q 11 (.q 12 (.a 5 (.q 6 (.q 7 (.a 13 (.q 14 (.q 15 .nil)))))))))))))))) (by kernel_rfl) (by kernel_rfl) ?_
 refine w_gorun ?_
 refine w_gocall [] (hc0) ?_
 refine w_gorun ?_
 refine w_gocall [] (hc1) ?_
 refine w_gorun ?_
 refine w_grun ?_
 refine w_gret ?_
 exact ⟨rfl,rfl⟩
theorem write_if2 (b:Bool) (c:E) (p:List S) (q:List S) (Cp:WriteB b p) (Cq:WriteB b q):WriteS b (.if2 c p q):=by
 intro t ho ht hb
 obtain ⟨⟨kk,aa,vv,ss,ks⟩,l⟩:=t
 obtain ⟨h1,h2,h3,hl⟩:=er_inv ht
 simp only at h1 h2 h3
 subst h1 h2 h3
 obtain ⟨x0,x1,x2,rfl,hx0,hx1,hx2⟩:=ers3 hl
 simp only [S.ok,Bool.and_eq_true] at ho
 rw [S.tree,wt] at hb
 simp only [wts,lim] at hb
 have hc0:=l08E_g b (a:=c) ho.1 (by unfold lim;omega) x0 hx0
 have hl0:=out_len b c ho.1
 have hr0:(encTs [x0,x1,x2])[0]?=some (cT x0):=row_enc rfl
 have hc1:=Cp x1 ho.2.1 hx1 (by unfold lim blkTree;omega)
 have hl1:=Go.Xp.blk_len (E.out b) (out_len b) ho.2.1
 rw [blkTree] at hl1
 have hr1:(encTs [x0,x1,x2])[1]?=some (cT x1):=row_enc rfl
 have hc2:=Cq x2 ho.2.2 hx2 (by unfold lim blkTree;omega)
 have hl2:=Go.Xp.blk_len (E.out b) (out_len b) ho.2.2
 rw [blkTree] at hl2
 have hr2:(encTs [x0,x1,x2])[2]?=some (cT x2):=row_enc rfl
 rw [S.txt]
 generalize c.out b=y0 at *
 change GF _ _ _ _ (.v (sv _)) _ at hc1
 unfold blkTxt at hc1 hl1
 generalize S.txts (E.out b) [123,32] p++[125]=y1 at *
 change GF _ _ _ _ (.v (sv _)) _ at hc2
 unfold blkTxt at hc2 hl2
 generalize S.txts (E.out b) [123,32] q++[125]=y2 at *
 simp only [cT,T.n,T.kids]
 refine GC.enter Tryz.func134 Tryz.ntmps134 rfl (by simp only [gframe,grep,Nat.reduceSub];rfl) ?_
 refine w_grun ?_
 refine GW.draw (.q 0 (.q 1 (.q 2 (.q 3 (.q 4 (.q 8 (.q 9 (.q 10 (.q 11 (.q 12 (.a 5 (.q 6 (.q 7 (.a 13 (.q 14 (.q 15 .nil)))))))))))))))) (by kernel_rfl) (by kernel_rfl) ?_
 refine w_gorun ?_
 refine w_gocall [] (hc0) ?_
 refine w_gorun ?_
 refine w_gocall [] (hc1) ?_
 refine w_gorun ?_
 refine w_grun ?_
 refine w_gcall [] (hc2) ?_
 refine w_grun ?_
 refine w_gret ?_
 exact ⟨rfl,rfl⟩
theorem write_while (b:Bool) (c:E) (p:List S) (Cp:WriteB b p):WriteS b (.while_ c p):=by
 intro t ho ht hb
 obtain ⟨⟨kk,aa,vv,ss,ks⟩,l⟩:=t
 obtain ⟨h1,h2,h3,hl⟩:=er_inv ht
 simp only at h1 h2 h3
 subst h1 h2 h3
 obtain ⟨x0,x1,rfl,hx0,hx1⟩:=ers2 hl
 simp only [S.ok,Bool.and_eq_true] at ho
 rw [S.tree,wt] at hb
 simp only [wts,lim] at hb
 have hc0:=l08E_g b (a:=c) ho.1 (by unfold lim;omega) x0 hx0
 have hl0:=out_len b c ho.1
 have hr0:(encTs [x0,x1])[0]?=some (cT x0):=row_enc rfl
 have hc1:=Cp x1 ho.2 hx1 (by unfold lim blkTree;omega)
 have hl1:=Go.Xp.blk_len (E.out b) (out_len b) ho.2
 rw [blkTree] at hl1
 have hr1:(encTs [x0,x1])[1]?=some (cT x1):=row_enc rfl
 rw [S.txt]
 generalize c.out b=y0 at *
 change GF _ _ _ _ (.v (sv _)) _ at hc1
 unfold blkTxt at hc1 hl1
 generalize S.txts (E.out b) [123,32] p++[125]=y1 at *
 simp only [cT,T.n,T.kids]
 refine GC.enter Tryz.func134 Tryz.ntmps134 rfl (by simp only [gframe,grep,Nat.reduceSub];rfl) ?_
 refine w_grun ?_
 refine GW.draw (.q 0 (.q 1 (.q 2 (.q 3 (.q 4 (.q 8 (.q 9 (.q 10 (.q 11 (.q 12 (.a 5 (.q 6 (.q 7 (.a 13 (.q 14 (.q 15 .nil)))))))))))))))) (by kernel_rfl) (by kernel_rfl) ?_
 refine w_gorun ?_
 refine w_gocall [] (hc0) ?_
 refine w_gorun ?_
 refine w_gocall [] (hc1) ?_
 refine w_gorun ?_
 refine w_grun ?_
 refine w_gret ?_
 exact ⟨rfl,rfl⟩
theorem write_ret (b:Bool) (a:E):WriteS b (.ret a):=by
 intro t ho ht hb
 obtain ⟨⟨kk,aa,vv,ss,ks⟩,l⟩:=t
 obtain ⟨h1,h2,h3,hl⟩:=er_inv ht
 simp only at h1 h2 h3
 subst h1 h2 h3
 obtain ⟨x0,rfl,hx0⟩:=ers1 hl
 simp only [S.ok] at ho
 rw [S.tree,wt] at hb
 simp only [wts,lim] at hb
 have hc0:=l08E_g b (a:=a) ho (by unfold lim;omega) x0 hx0
 have hl0:=out_len b a ho
 have hr0:(encTs [x0])[0]?=some (cT x0):=row_enc rfl
 rw [S.txt]
 generalize a.out b=y0 at *
 simp only [cT,T.n,T.kids]
 refine GC.enter Tryz.func134 Tryz.ntmps134 rfl (by simp only [gframe,grep,Nat.reduceSub];rfl) ?_
 refine w_grun ?_
 refine w_gcall [] (hc0) ?_
 refine w_grun ?_
 refine w_gret ?_
 exact ⟨rfl,rfl⟩
theorem write_do (b:Bool) (a:E):WriteS b (.do_ a):=by
 intro t ho ht hb
 obtain ⟨⟨kk,aa,vv,ss,ks⟩,l⟩:=t
 obtain ⟨h1,h2,h3,hl⟩:=er_inv ht
 simp only at h1 h2 h3
 subst h1 h2 h3
 obtain ⟨x0,rfl,hx0⟩:=ers1 hl
 simp only [S.ok] at ho
 rw [S.tree,wt] at hb
 simp only [wts,lim] at hb
 have hc0:=l08E_g b (a:=a) ho (by unfold lim;omega) x0 hx0
 have hl0:=out_len b a ho
 have hr0:(encTs [x0])[0]?=some (cT x0):=row_enc rfl
 rw [S.txt]
 generalize a.out b=y0 at *
 simp only [cT,T.n,T.kids]
 refine GC.enter Tryz.func134 Tryz.ntmps134 rfl (by simp only [gframe,grep,Nat.reduceSub];rfl) ?_
 refine w_grun ?_
 refine w_gcall [] (hc0) ?_
 refine w_grun ?_
 refine w_gret ?_
 exact ⟨rfl,rfl⟩
theorem write_blk (b:Bool) (es:List S) (C:∀ a∈es,WriteS b a):WriteB b es:=by
 intro t ho ht hb
 obtain ⟨⟨kk,aa,vv,ss,ks⟩,l⟩:=t
 obtain ⟨h1,h2,h3,hl⟩:=er_inv ht
 simp only at h1 h2 h3
 subst h1 h2 h3
 obtain ⟨hlen,hat⟩:=sers_at hl
 have hbl:=Go.Xp.blk_len (E.out b) (out_len b) ho
 rw [blkTree,wt] at hb
 rw [blkTree,wt] at hbl
 have hn:=swts_len es
 unfold blkTxt at hbl ⊢
 unfold lim at hb
 simp only [List.length_append,List.length_cons,List.length_nil] at hb hbl
 simp only [cT,T.n,T.kids]
 refine GC.enter Tryz.func134 Tryz.ntmps134 rfl (by simp only [gframe,grep,Nat.reduceSub];rfl) ?_
 refine w_grun ?_
 refine GW.range (encTs l).length (fun k fr Γ=>∃ y,fr=[.any,.v (.bool b),.loc 0 0,.any,.any,.any,.v (sv y),.any,.any,.any,.any,.any,.any,.any,.any,.any,.any,.any,.any,.any,.any,.any,.any,.any,.any,.any,.any,.any,.any,.any,.any,.any,.any,.any,.any,.any,.any,.any,.any,.any,.any,.any,.any,.any,.any,.any,.any,.any,.any,.any,.any,.any,.any,.any,.any,.any,.any,.any,.any,.any,.any,.any,.any,.any,.any,.any,.any,.any,.any,.any,.any,.any,.any,.any,.any,.any,.any,.any,.any,.any,.any,.any,.any,.any,.any,.any,.any,.any,.any,.any,.any,.any,.any,.any,.any,.any,.any,.any,.any,.any,.any,.any,.any,.any,.any,.any,.any,.any,.any,.any,.any,.any,.any,.any,.any,.any,.any,.any,.any,.any,.any,.any,.any,.any,.any,.any,.any,.any,.any,.any,.any,.sl 6 (encTs l),.v (ii ((encTs l).length:Int)),.v (ii (k:Nat)),.any,.any,.any,.any,.any,.any,.any,.any,.any,.any,.any,.any]∧Γ=[.box 70 [.v (ii 14),.v (ii aa),.v (ii 0),.v (sv []),ints ks,.sl 6 (encTs l)]]∧S.txts (E.out b) y (es.drop k)=S.txts (E.out b) [123,32] es) ?_ (by rw [encTs_len];omega) ?_ ?_ ?_
 ·exact ⟨_,_,Wk.frm w_wkf,_,rfl,rfl,rfl⟩
 ·rintro k _ _ ⟨y,rfl,rfl,_⟩;exact ⟨rfl,rfl,rfl⟩
 ·rintro k _ _ hk ⟨y,rfl,rfl,hy⟩
  have hk:k < es.length:=by rw [encTs_len,hlen] at hk;exact hk
  have hkt:k < l.length:=by omega
  have hx:es[k]?=some es[k]:=by simp [hk]
  have htk:l[k]?=some l[k]:=by simp [hkt]
  have hr:=row_enc htk
  rw [List.drop_eq_getElem_cons hk,S.txts] at hy
  have hm:=List.mem_of_getElem? hx
  have hc:=C _ hm _ (soks_mem ho hm) (hat k _ _ htk hx) (by have:=swts_mem hm;unfold lim;omega)
  generalize l[k]=t at *
  generalize hgx:es[k].txt (E.out b)=x at *
  have hge:=txts_ge (E.out b) (es.drop (k+1)) (y++x++[32])
  rw [hy] at hge
  simp only [List.length_append,List.length_cons,List.length_nil] at hge
  refine w_grun ?_
  refine w_gcall [] (hc) ?_
  refine w_grun ?_
  exact ⟨rfl,rfl,_,_,(Wk.cut (n:=1) (Nat.le_of_ble_eq_true rfl) rfl).trans (Wk.frm w_wkf),_,rfl,rfl,hy⟩
 ·rintro _ _ ⟨y,rfl,rfl,hy⟩
  rw [List.drop_of_length_le (by rw [encTs_len,hlen];exact Nat.le_refl _),S.txts] at hy
  subst hy
  refine w_grun ?_
  refine w_gret ?_
  exact ⟨rfl,rfl⟩
mutual
theorem writeS (b:Bool):∀ s:S,WriteS b s
 | .set s a=>write_set b s a
 | .put s a c=>write_put b s a c
 | .if1 c p=>write_if1 b c p (write_blk b p (writeSs b p))
 | .if2 c p q=>write_if2 b c p q (write_blk b p (writeSs b p)) (write_blk b q (writeSs b q))
 | .while_ c p=>write_while b c p (write_blk b p (writeSs b p))
 | .ret a=>write_ret b a
 | .do_ a=>write_do b a
 | .var s a=>write_var b s a
theorem writeSs (b:Bool):∀ l:List S,∀ a∈l,WriteS b a
 | []=>fun a h=>by cases h
 | c::l=>fun a h=>by
  rcases List.mem_cons.1 h with h | h
  ·rw [h];exact writeS b c
  ·exact writeSs b l a h
end
theorem writeB (b:Bool) (l:List S):WriteB b l:=write_blk b l (writeSs b l)
end Go.Xg
namespace Go.Xg
open Go.RowKit Go.Xw Go.Proofs
open Go.Xp (Tok Nd T signOf one levels Ar digs E S er ers wt wts blkTree blkTxt blkFit)
open Go.Sp
attribute [local irreducible] GW GL GO YG GC GA gthn ginb
theorem l08Fits_g (p:Src) (hp:smSrc p) (ls:List (List S)) (hb:Bodies p ls):GF Tryz.prog 90 [.agg (encSrc p)] [] (.v (.bool (ls.all fun l=>blkFit l 1))) []:=by
 refine GC.enter Tryz.func90 Tryz.ntmps90 rfl (by simp only [gframe,grep,Nat.reduceSub];rfl) ?_
 refine w_grun ?_
 refine GW.range (p.fns.map encFn).length (fun k fr Γ=>fr=[.any,.loc 0 0,.any,.any,.any,.any,.any,.any,.sl 3 (p.fns.map encFn),.v (ii ((p.fns.map encFn).length:Int)),.v (ii (k:Nat)),.any,.any,.any,.any,.any,.any,.any,.any,.any,.any,.any,.any,.any,.any,.any,.any,.any,.any,.any,.any,.any,.any,.any,.any,.any,.any,.any,.any,.any,.any,.any,.any,.any,.any]∧Γ=[.box 28 (encSrc p)]∧((ls.take k).all fun l=>blkFit l 1)=true) ?_ (by simpa using by have:=hp.fns.1;omega) ?_ ?_ ?_
 ·exact ⟨_,_,Wk.frm w_wkf,rfl,rfl,rfl⟩
 ·rintro k _ _ ⟨rfl,rfl,_⟩;exact ⟨rfl,rfl,rfl⟩
 ·rintro k _ _ hk ⟨rfl,rfl,hf⟩
  have hk:k < p.fns.length:=by simpa using hk
  have hkl:k < ls.length:=by rw [hb.len];exact hk
  have hx:p.fns[k]?=some p.fns[k]:=by simp [hk]
  have hxl:ls[k]?=some ls[k]:=by simp [hkl]
  have hr:=row_fn hx
  obtain ⟨h0,ho,hw,t,hsub,her⟩:=hb.at_ k _ _ hx hxl
  have hs:=sub_g p (fun n hn=>(hp.nodes.2 n hn).2) _ _ _ hsub
  rw [Int.toNat_of_nonneg h0] at hs
  have hwr:=writeB true ls[k] t ho her (by unfold lim;omega)
  obtain ⟨ts,t2,q,f,h1,h2,h3,h4,h5,h6,h7⟩:=blk_run ho hw
  have htk:=l08Toks_g _ ts (by omega) h1
  have hmp:RS.ok ⟨ts,0,(blkTxt E.txt ls[k]).length,0,0⟩:=⟨Nat.zero_le _,by simp only;omega⟩
  have hblk:=(sds f).block 1 _ t2 q hmp (by omega) h5
  have hto:(E.out true)=E.txt:=by funext a;rfl
  rw [hto] at hwr
  generalize blkTxt E.txt ls[k]=tx at *
  generalize hfit:blkFit ls[k] 1=fit at *
  generalize p.fns[k]=x at *
  rcases h7 with ⟨h7,h8,rfl⟩ | ⟨h7,rfl⟩
  ·have hc1:(q.code != 0)=false:=by simpa using h7
   have hc2:((q.i:Int) != ((q.l.map encTok).length:Int))=false:=by rw [List.length_map,h6];simp [h8]
   refine w_grun ?_
   refine w_gcall [] (hs) ?_
   refine w_grun ?_
   refine w_gcall [] (hwr) ?_
   refine w_grun ?_
   refine w_gcall [] (htk) ?_
   refine w_grun ?_
   refine w_gcall [2] (hblk) ?_
   refine w_grun ?_
   refine GW.draw (.q 0 (.q 1 (.q 2 (.q 3 (.q 4 (.q 5 (.q 6 (.q 7 (.q 8 (.q 9 (.q 10 (.q 11 (.q 12 (.q 13 (.q 14 (.q 15 (.q 16 .nil))))))))))))))))) (by kernel_rfl) (by kernel_rfl) ?_
   refine w_gorun ?_
   refine w_grun ?_
   exact ⟨rfl,rfl,_,_,(Wk.cut (n:=1) (Nat.le_of_ble_eq_true rfl) rfl).trans (Wk.frm w_wkf),rfl,rfl,all_step hxl hf hfit⟩
  ·have hc1:(q.code != 0)=true:=by simpa using h7
   have hall:(ls.all fun l=>blkFit l 1)=false:=all_no hxl hfit
   rw [hall]
   refine w_grun ?_
   refine w_gcall [] (hs) ?_
   refine w_grun ?_
   refine w_gcall [] (hwr) ?_
   refine w_grun ?_
   refine w_gcall [] (htk) ?_
   refine w_grun ?_
   refine w_gcall [2] (hblk) ?_
   refine w_grun ?_
   refine GW.draw (.q 0 (.q 1 (.q 2 (.q 3 (.q 4 (.q 5 (.q 6 (.q 7 (.q 8 (.q 9 (.q 10 (.q 11 (.q 12 (.q 13 (.q 14 (.q 15 (.q 16 .nil))))))))))))))))) (by kernel_rfl) (by kernel_rfl) ?_
   refine w_gorun ?_
   refine w_grun ?_
   refine w_gret ?_
   exact ⟨rfl,rfl⟩
 ·rintro _ _ ⟨rfl,rfl,hf⟩
  rw [List.take_of_length_le (by rw [List.length_map,hb.len];exact Nat.le_refl _)] at hf
  rw [hf]
  refine w_grun ?_
  refine w_gret ?_
  exact ⟨rfl,rfl⟩
theorem FormOk2_f (p:Src) (hp:smSrc p) (h:stand p=some false):GF Tryz.prog 38 [.agg (encSrc p)] [] (.v (.bool false)) []:=by
 have hs:=l08Stand_g p hp false h
 refine GC.enter Tryz.func38 Tryz.ntmps38 rfl (by simp only [gframe,grep,Nat.reduceSub];rfl) ?_
 refine w_grun ?_
 refine w_gcall [] (hs) ?_
 refine w_grun ?_
 refine w_gret ?_
 exact ⟨rfl,rfl⟩
theorem FormOk2_t (p:Src) (hp:smSrc p) (h:stand p=some true) (ls:List (List S)) (hb:Bodies p ls):GF Tryz.prog 38 [.agg (encSrc p)] [] (.v (.bool (ls.all fun l=>blkFit l 1))) []:=by
 have hs:=l08Stand_g p hp true h
 have hf:=l08Fits_g p hp ls hb
 generalize (ls.all fun l=>blkFit l 1)=b at *
 refine GC.enter Tryz.func38 Tryz.ntmps38 rfl (by simp only [gframe,grep,Nat.reduceSub];rfl) ?_
 refine w_grun ?_
 refine w_gcall [] (hs) ?_
 refine w_grun ?_
 refine w_gcall [] (hf) ?_
 refine w_grun ?_
 refine w_gret ?_
 exact ⟨rfl,rfl⟩
end Go.Xg
namespace Go.Xg
open Go.RowKit Go.Xw Go.Proofs
open Go.Xp (Tok Nd T levels Ar E S er wt blkTree blkTxt blkFit)
open Go.Sp
open Go.Im
attribute [local irreducible] GW GL GO YG GC GA gthn ginb
theorem smSrc_w {p:Src} (hw:wSrc p≤1048576):smSrc p:=by
 obtain ⟨⟨a1,a2⟩,⟨b1,b2⟩,⟨c1,c2⟩,⟨d1,d2⟩⟩:=small_w p
 exact ⟨⟨by omega,fun s hs=>by have:=a2 s hs;omega⟩,⟨by omega,fun s hs=>by have:=b2 s hs;omega⟩,⟨by omega,fun f hf=>by obtain ⟨e1,e2,e3⟩:=c2 f hf;exact ⟨by omega,by omega,fun s hs=>by have:=e3 s hs;omega⟩⟩,⟨by omega,fun n hn=>by obtain ⟨e1,e2⟩:=d2 n hn;exact ⟨by omega,by omega⟩⟩⟩
theorem FormOk2_g (p:Src) (hw:wSrc p≤1048576):GF Tryz.prog 38 [.agg (encSrc p)] [] (.v (.bool (fI p))) []:=by
 have hsm:=smSrc_w hw
 obtain ⟨b,hb⟩:=stand_some p
 cases b with
 | false=>rw [fI_f hb];exact FormOk2_f p hsm hb
 | true =>
  obtain ⟨l,hl⟩:=stand_t hb
  obtain ⟨ls,hf⟩:=hl.forms
  rw [fI_t hl hf]
  exact FormOk2_t p hsm hb ls (bodies_of hl hf hw)
end Go.Xg
