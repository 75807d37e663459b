/- Part 11 of proofs that are told in their last texts. -/
import Derived.Test.YtaopilmekfecpaaGreatDoorQ6
import Derived.Test.YtaopilmekfecpaaGreatDoorQ10
import Derived.Test.YtaopilmekfecpaaGreatDoorQ7
import Derived.Test.YtaopilmekfecpaaGreatDoorQ8
set_option linter.unusedVariables false
set_option linter.unusedSimpArgs false
set_option maxHeartbeats 1000000
set_option maxRecDepth 100000
namespace Go.Xg
open Go.RowKit Go.Xw Go.Proofs
open Go.Xp (Tok Nd T signOf one levels Ar digs E S er ers wt wts blkTree blkTxt szT szL brt)
open Go.Sp
open Go.Im (blanks blanks_len blanks_succ prS prSs prB prB_len pr_len)
attribute [local irreducible] GW GL GO YG GC GA gthn ginb
theorem l21Blanks_g (d:Nat) (hd:d≤1099511627776):GF Tryz.prog 114 [.v (ii (d:Nat))] [] (.v (sv (blanks d))) []:=by
 refine GC.enter Tryz.func114 Tryz.ntmps114 rfl (by simp only [gframe,grep,Nat.reduceSub];rfl) ?_
 refine w_grun ?_
 refine GW.loop (fun x:Nat × Go.Xp.Str=>d - x.1) (fun x fr Γ=>fr=[.v (ii (d:Nat)),.any,.any,.v (sv x.2),.v (ii (x.1:Nat)),.any,.any,.any,.any,.any,.any,.any,.any]∧Γ=[]∧x.1≤d∧x.2=blanks x.1) (0,[]) ?_ ?_
 ·exact ⟨_,_,Wk.frm w_wkf,rfl,rfl,Nat.zero_le _,rfl⟩
 rintro ⟨k,y⟩ _ _ ⟨rfl,rfl,hk,hy⟩
 simp only at hk hy
 have hyl:y.length=2 * k:=by rw [hy];exact blanks_len k
 have hs:=blanks_succ k
 rw [←hy] at hs
 by_cases hlt:k < d
 ·have hd2:decide ((k:Int) < (d:Int))=true:=by simpa using hlt
  refine w_grun ?_
  exact ⟨(k+1,y++[32,32]),⟨_,_,Wk.frm w_wkf,rfl,rfl,hlt,hs.symm⟩,by show d - (k+1) < d - k;omega⟩
 ·have hd2:decide ((k:Int) < (d:Int))=false:=by simpa using hlt
  have hke:k=d:=by omega
  subst hke
  subst hy
  refine w_grun ?_
  refine w_gexit ?_
  refine w_grun ?_
  refine w_gret ?_
  exact ⟨rfl,rfl⟩
def PrS (s:S):Prop:=∀ t (d:Nat),s.ok=true→er t=s.tree→d+szT s.tree≤1000→wt s.tree≤200000000→GF Tryz.prog 115 [.agg (cT t),.v (ii (d:Nat))] [] (.v (sv (prS d s))) []
def PrB (l:List S):Prop:=∀ t (d:Nat),S.oks l=true→er t=blkTree l→d+szT (blkTree l)≤1000→wt (blkTree l)≤200000000→GF Tryz.prog 66 [.agg (cT t),.v (ii (d:Nat))] [] (.v (sv (prB d l))) []
theorem brt0 (lv:Nat) (x:Go.Xp.Str):brt lv 0 x=x:=by unfold brt;rw [if_neg (by omega)]
theorem pr_base (s:S) (h9:(s.tree.n.kind==9)=false) (h10:(s.tree.n.kind==10)=false) (hp:∀ d,prS d s=S.txt E.txt s):PrS s:=by
 intro t d ho ht hd hw
 have hc:=writeS true s t ho ht (by unfold lim;omega)
 have hto:(E.out true)=E.txt:=by funext a;rfl
 rw [hto] at hc
 rw [hp]
 have hk:t.n.kind=s.tree.n.kind:=by have:=congrArg (fun x=>x.n.kind) ht;simp only [Go.Im.er_n] at this;exact this
 rw [←hk] at h9 h10
 obtain ⟨⟨kk,aa,vv,ss,ks⟩,l⟩:=t
 generalize S.txt E.txt s=y at *
 simp only [T.n] at h9 h10
 simp only [cT,T.n,T.kids] at hc ⊢
 refine GC.enter Tryz.func115 Tryz.ntmps115 rfl (by simp only [gframe,grep,Nat.reduceSub];rfl) ?_
 refine w_grun ?_
 refine w_gcall [] (hc) ?_
 refine w_grun ?_
 refine w_gret ?_
 exact ⟨rfl,rfl⟩
theorem szB {l:List S}:szT (blkTree l)=szL (S.trees l)+1:=by rw [blkTree,szT]
theorem prB_small {d:Nat} {l:List S} (ho:S.oks l=true) (hd:d+szT (blkTree l)≤1000) (hw:wt (blkTree l)≤200000000):(prB d l).length≤300000000:=by
 have h1:=prB_len (B:=2004) (d:=d) ho (by omega)
 have h2:szT (blkTree l) * (2 * 2004)≤1000 * (2 * 2004):=Nat.mul_le_mul_right _ (by omega)
 omega
theorem pr_if1 (c:E) (p:List S) (Cp:PrB p):PrS (.if1 c p):=by
 intro t d ho ht hd hw
 obtain ⟨⟨kk,aa,vv,ss,ks⟩,l⟩:=t
 obtain ⟨h1,h2,h3,hl⟩:=er_inv ht
 simp only at h1 h2 h3
 subst h1 h2 h3
 obtain ⟨x0,x1,rfl,hx0,hx1⟩:=ers2 hl
 simp only [S.ok,Bool.and_eq_true] at ho
 rw [S.tree,wt] at hw
 rw [S.tree,szT] at hd
 simp only [wts] at hw
 simp only [szL] at hd
 have hc0:=leastP c x0 0 ho.1 hx0 (by unfold lim;omega)
 rw [brt0] at hc0
 have hl0:=(E.len c ho.1).1
 have hr0:(encTs [x0,x1])[0]?=some (cT x0):=row_enc rfl
 have hc1:=Cp x1 d ho.2 hx1 (by rw [blkTree];omega) (by rw [blkTree];omega)
 have hl1:=prB_small (d:=d) ho.2 (by rw [blkTree];omega) (by rw [blkTree];omega)
 have hr1:(encTs [x0,x1])[1]?=some (cT x1):=row_enc rfl
 rw [prS]
 generalize c.txt=y0 at *
 change GF _ _ _ _ (.v (sv _)) _ at hc1
 unfold prB at hc1 hl1
 generalize (prSs d [123,10] p++blanks d)++[125]=y1 at *
 simp only [cT,T.n,T.kids]
 refine GC.enter Tryz.func115 Tryz.ntmps115 rfl (by simp only [gframe,grep,Nat.reduceSub];rfl) ?_
 refine w_grun ?_
 refine GW.draw (.q 0 (.q 1 (.q 2 (.q 3 (.q 7 (.q 8 (.q 9 (.q 10 (.q 11 (.a 4 (.q 5 (.q 6 (.a 12 (.q 13 (.q 14 .nil))))))))))))))) (by kernel_rfl) (by kernel_rfl) ?_
 refine w_gorun ?_
 refine w_gocall [] (hc0) ?_
 refine w_gorun ?_
 refine w_gocall [] (hc1) ?_
 refine w_gorun ?_
 refine w_grun ?_
 refine w_gret ?_
 exact ⟨rfl,rfl⟩
theorem pr_while (c:E) (p:List S) (Cp:PrB p):PrS (.while_ c p):=by
 intro t d ho ht hd hw
 obtain ⟨⟨kk,aa,vv,ss,ks⟩,l⟩:=t
 obtain ⟨h1,h2,h3,hl⟩:=er_inv ht
 simp only at h1 h2 h3
 subst h1 h2 h3
 obtain ⟨x0,x1,rfl,hx0,hx1⟩:=ers2 hl
 simp only [S.ok,Bool.and_eq_true] at ho
 rw [S.tree,wt] at hw
 rw [S.tree,szT] at hd
 simp only [wts] at hw
 simp only [szL] at hd
 have hc0:=leastP c x0 0 ho.1 hx0 (by unfold lim;omega)
 rw [brt0] at hc0
 have hl0:=(E.len c ho.1).1
 have hr0:(encTs [x0,x1])[0]?=some (cT x0):=row_enc rfl
 have hc1:=Cp x1 d ho.2 hx1 (by rw [blkTree];omega) (by rw [blkTree];omega)
 have hl1:=prB_small (d:=d) ho.2 (by rw [blkTree];omega) (by rw [blkTree];omega)
 have hr1:(encTs [x0,x1])[1]?=some (cT x1):=row_enc rfl
 rw [prS]
 generalize c.txt=y0 at *
 change GF _ _ _ _ (.v (sv _)) _ at hc1
 unfold prB at hc1 hl1
 generalize (prSs d [123,10] p++blanks d)++[125]=y1 at *
 simp only [cT,T.n,T.kids]
 refine GC.enter Tryz.func115 Tryz.ntmps115 rfl (by simp only [gframe,grep,Nat.reduceSub];rfl) ?_
 refine w_grun ?_
 refine GW.draw (.q 0 (.q 1 (.q 2 (.q 3 (.q 7 (.q 8 (.q 9 (.q 10 (.q 11 (.a 4 (.q 5 (.q 6 (.a 12 (.q 13 (.q 14 .nil))))))))))))))) (by kernel_rfl) (by kernel_rfl) ?_
 refine w_gorun ?_
 refine w_gocall [] (hc0) ?_
 refine w_gorun ?_
 refine w_gocall [] (hc1) ?_
 refine w_gorun ?_
 refine w_grun ?_
 refine w_gret ?_
 exact ⟨rfl,rfl⟩
theorem pr_if2 (c:E) (p q:List S) (Cp:PrB p) (Cq:PrB q):PrS (.if2 c p q):=by
 intro t d ho ht hd hw
 obtain ⟨⟨kk,aa,vv,ss,ks⟩,l⟩:=t
 obtain ⟨h1,h2,h3,hl⟩:=er_inv ht
 simp only at h1 h2 h3
 subst h1 h2 h3
 obtain ⟨x0,x1,x2,rfl,hx0,hx1,hx2⟩:=ers3 hl
 simp only [S.ok,Bool.and_eq_true] at ho
 rw [S.tree,wt] at hw
 rw [S.tree,szT] at hd
 simp only [wts] at hw
 simp only [szL] at hd
 have hc0:=leastP c x0 0 ho.1 hx0 (by unfold lim;omega)
 rw [brt0] at hc0
 have hl0:=(E.len c ho.1).1
 have hr0:(encTs [x0,x1,x2])[0]?=some (cT x0):=row_enc rfl
 have hc1:=Cp x1 d ho.2.1 hx1 (by rw [blkTree];omega) (by rw [blkTree];omega)
 have hl1:=prB_small (d:=d) ho.2.1 (by rw [blkTree];omega) (by rw [blkTree];omega)
 have hr1:(encTs [x0,x1,x2])[1]?=some (cT x1):=row_enc rfl
 have hc2:=Cq x2 d ho.2.2 hx2 (by rw [blkTree];omega) (by rw [blkTree];omega)
 have hl2:=prB_small (d:=d) ho.2.2 (by rw [blkTree];omega) (by rw [blkTree];omega)
 have hr2:(encTs [x0,x1,x2])[2]?=some (cT x2):=row_enc rfl
 rw [prS]
 generalize c.txt=y0 at *
 change GF _ _ _ _ (.v (sv _)) _ at hc1
 unfold prB at hc1 hl1
 generalize (prSs d [123,10] p++blanks d)++[125]=y1 at *
 change GF _ _ _ _ (.v (sv _)) _ at hc2
 unfold prB at hc2 hl2
 generalize (prSs d [123,10] q++blanks d)++[125]=y2 at *
 simp only [cT,T.n,T.kids]
 refine GC.enter Tryz.func115 Tryz.ntmps115 rfl (by simp only [gframe,grep,Nat.reduceSub];rfl) ?_
 refine w_grun ?_
 refine GW.draw (.q 0 (.q 1 (.q 2 (.q 3 (.q 7 (.q 8 (.q 9 (.q 10 (.q 11 (.a 4 (.q 5 (.q 6 (.a 12 (.q 13 (.q 14 .nil))))))))))))))) (by kernel_rfl) (by kernel_rfl) ?_
 refine w_gorun ?_
 refine w_gocall [] (hc0) ?_
 refine w_gorun ?_
 refine w_gocall [] (hc1) ?_
 refine w_gorun ?_
 refine w_grun ?_
 refine w_gcall [] (hc2) ?_
 refine w_grun ?_
 refine w_gret ?_
 exact ⟨rfl,rfl⟩
theorem prSs_ge (d:Nat):∀ (l:List S) (acc:Go.Xp.Str),acc.length≤(prSs d acc l).length
 | [],acc=>by rw [prSs];omega
 | a::l,acc=>by
  rw [prSs]
  have:=prSs_ge d l (((acc++blanks (d+1))++prS (d+1) a)++[10])
  simp only [List.length_append,List.length_cons,List.length_nil] at this;omega
theorem szs_mem:∀ {l:List S} {a:S},a∈l→szT a.tree≤szL (S.trees l)
 | [],_,h=>by cases h
 | b::l,a,h=>by
  rw [S.trees,szL]
  rcases List.mem_cons.1 h with rfl | h
  ·omega
  ·have:=szs_mem h;omega
theorem pr_blk (es:List S) (C:∀ a∈es,PrS a):PrB es:=by
 intro t d ho ht hd hw
 have hbl:=prB_small (d:=d) ho hd hw
 obtain ⟨⟨kk,aa,vv,ss,ks⟩,l⟩:=t
 obtain ⟨h1,h2,h3,hl⟩:=er_inv ht
 simp only at h1 h2 h3
 subst h1 h2 h3
 obtain ⟨hlen,hat⟩:=sers_at hl
 rw [szB] at hd
 rw [blkTree,wt] at hw
 have hn:=swts_len es
 unfold prB at hbl ⊢
 have hb0:=l21Blanks_g d (by omega)
 have hb1:=l21Blanks_g (d+1) (by omega)
 have hq0:=blanks_len d
 have hq1:=blanks_len (d+1)
 rw [show (((d+1:Nat):Int))=(d:Int)+1 by omega] at hb1
 simp only [List.length_append,List.length_cons,List.length_nil] at hbl
 simp only [cT,T.n,T.kids]
 refine GC.enter Tryz.func66 Tryz.ntmps66 rfl (by simp only [gframe,grep,Nat.reduceSub];rfl) ?_
 refine w_grun ?_
 refine GW.range (encTs l).length (fun k fr Γ=>∃ y,fr=[.any,.v (ii (d:Nat)),.loc 0 0,.any,.any,.v (sv y),.any,.any,.any,.sl 6 (encTs l),.v (ii ((encTs l).length:Int)),.v (ii (k:Nat)),.any,.any,.any,.any,.any,.any,.any,.any,.any,.any,.any,.any,.any,.any,.any,.any,.any,.any,.any,.any]∧Γ=[.box 70 [.v (ii 14),.v (ii aa),.v (ii 0),.v (sv []),ints ks,.sl 6 (encTs l)]]∧prSs d y (es.drop k)=prSs d [123,10] es) ?_ (by rw [encTs_len];omega) ?_ ?_ ?_
 ·exact ⟨_,_,Wk.frm w_wkf,_,rfl,rfl,rfl⟩
 ·rintro k _ _ ⟨y,rfl,rfl,_⟩;exact ⟨rfl,rfl,rfl⟩
 ·rintro k _ _ hk ⟨y,rfl,rfl,hy⟩
  have hk:k < es.length:=by rw [encTs_len,hlen] at hk;exact hk
  have hkt:k < l.length:=by omega
  have hx:es[k]?=some es[k]:=by simp [hk]
  have htk:l[k]?=some l[k]:=by simp [hkt]
  have hr:=row_enc htk
  rw [List.drop_eq_getElem_cons hk,prSs] at hy
  have hm:=List.mem_of_getElem? hx
  have hsz:=szs_mem hm
  have hc:=C _ hm l[k] (d+1) (soks_mem ho hm) (hat k _ _ htk hx) (by omega) (by have:=swts_mem hm;omega)
  rw [show (((d+1:Nat):Int))=(d:Int)+1 by omega] at hc
  generalize l[k]=t at *
  generalize hgx:prS (d+1) es[k]=x at *
  have hge:=prSs_ge d (es.drop (k+1)) (((y++blanks (d+1))++x)++[10])
  rw [hy] at hge
  generalize blanks (d+1)=z1 at *
  simp only [List.length_append,List.length_cons,List.length_nil] at hge
  refine w_grun ?_
  refine GW.draw (.q 0 (.q 1 (.q 2 (.q 5 (.q 6 (.q 7 (.a 3 (.q 4 (.a 8 (.q 9 (.q 10 (.q 11 .nil)))))))))))) (by kernel_rfl) (by kernel_rfl) ?_
  refine w_gorun ?_
  refine w_gocall [] (hb1) ?_
  refine w_gorun ?_
  refine w_gocall [] (hc) ?_
  refine w_gorun ?_
  refine w_grun ?_
  exact ⟨rfl,rfl,_,_,(Wk.cut (n:=1) (Nat.le_of_ble_eq_true rfl) rfl).trans (Wk.frm w_wkf),_,rfl,rfl,hy⟩
 ·rintro _ _ ⟨y,rfl,rfl,hy⟩
  rw [List.drop_of_length_le (by rw [encTs_len,hlen];exact Nat.le_refl _),prSs] at hy
  rw [←hy] at hbl ⊢
  generalize blanks d=z0 at *
  refine w_grun ?_
  refine w_gcall [] (hb0) ?_
  refine w_grun ?_
  refine w_gret ?_
  exact ⟨rfl,rfl⟩
mutual
theorem prS_g:∀ s:S,PrS s
 | .set s a=>pr_base _ rfl rfl fun d=>by rw [prS]
 | .put s a c=>pr_base _ rfl rfl fun d=>by rw [prS]
 | .if1 c p=>pr_if1 c p (pr_blk p (prSs_g p))
 | .if2 c p q=>pr_if2 c p q (pr_blk p (prSs_g p)) (pr_blk q (prSs_g q))
 | .while_ c p=>pr_while c p (pr_blk p (prSs_g p))
 | .ret a=>pr_base _ rfl rfl fun d=>by rw [prS]
 | .do_ a=>pr_base _ rfl rfl fun d=>by rw [prS]
 | .var s a=>pr_base _ rfl rfl fun d=>by rw [prS]
theorem prSs_g:∀ l:List S,∀ a∈l,PrS a
 | []=>fun a h=>by cases h
 | c::l=>fun a h=>by
  rcases List.mem_cons.1 h with h | h
  ·rw [h];exact prS_g c
  ·exact prSs_g l a h
end
theorem prB_g (l:List S):PrB l:=pr_blk l (prSs_g l)
end Go.Xg
namespace Go.Xg
open Go.RowKit Go.Xw Go.Proofs
open Go.Xp (Tok Nd T signOf one levels Ar digs E S er ers wt wts blkTree blkTxt szT szL brt joinC)
open Go.Sp
open Go.Im
attribute [local irreducible] GW GL GO YG GC GA gthn ginb
theorem Pretty_no (p:Src) (hF:GF Tryz.prog 38 [.agg (encSrc p)] [] (.v (.bool false)) []):GF Tryz.prog 26 [.agg (encSrc p)] [] (.v (sv [])) []:=by
 refine GC.enter Tryz.func26 Tryz.ntmps26 rfl (by simp only [gframe,grep,Nat.reduceSub];rfl) ?_
 refine w_grun ?_
 refine w_gcall [] (hF) ?_
 refine w_grun ?_
 refine w_gret ?_
 exact ⟨rfl,rfl⟩
theorem joinC_succ {l:List Str} {k:Nat} {x:Str} (h:l[k]?=some x):joinC (l.take (k+1))=(if k > 0 then joinC (l.take k)++[44,32] else [])++x:=by
 have ht:l.take (k+1)=l.take k++[x]:=by rw [List.take_add_one,h];rfl
 by_cases hk:k > 0
 ·have hne:l.take k≠[]:=by
   have:=(List.getElem?_eq_some_iff.1 h).1
   intro he
   have:=congrArg List.length he
   rw [List.length_take,List.length_nil] at this;omega
  rw [if_pos hk,ht,Go.Xp.joinC_snoc hne]
 ·have:k=0:=by omega
  subst this
  rw [if_neg hk,ht];simp [joinC]
theorem Pretty_yes (p:Src) (l:List T) (ls:List (List S)) (hw:wSrc p≤1048576) (hst:Stands p l) (hfm:Forms l ls) (hF:GF Tryz.prog 38 [.agg (encSrc p)] [] (.v (.bool true)) []):GF Tryz.prog 26 [.agg (encSrc p)] [] (.v (sv (prT p ls))) []:=by
 have hbod:=bodies_of hst hfm hw
 have hsm:=smSrc_w hw
 have hlen:=prT_len hst hfm hw
 have hnum:=arOk_nums hst
 have hsz:=hst.szs hfm
 have hps:=pr_small hst hfm hw
 obtain ⟨⟨a1',a2'⟩,⟨b1',b2'⟩,⟨c1',c2'⟩,⟨d1',d2'⟩⟩:=small_w p
 have hll:p.fns.length=ls.length:=by rw [hfm.len];exact FSq.len hst.fns
 have hX1:∀ k,(catF g1 [] (p.globals.take k)).length≤200000000000:=fun k=>by
  have h1:=catF_take g1 p.globals k []
  have h2:=catF_ge a1 p.arrays (catF g1 [] p.globals)
  have h3:=catF_ge f2N (p.fns.zip ls) (catF a1 (catF g1 [] p.globals) p.arrays)
  unfold prT at hlen;omega
 have hX2:∀ k,(catF a1 (catF g1 [] p.globals) (p.arrays.take k)).length≤200000000000:=fun k=>by
  have h1:=catF_take a1 p.arrays k (catF g1 [] p.globals)
  have h3:=catF_ge f2N (p.fns.zip ls) (catF a1 (catF g1 [] p.globals) p.arrays)
  unfold prT at hlen;omega
 have hX3:∀ k,(catF f2N (catF a1 (catF g1 [] p.globals) p.arrays) ((p.fns.zip ls).take k)).length≤200000000000:=fun k=>by
  have h1:=catF_take f2N (p.fns.zip ls) k (catF a1 (catF g1 [] p.globals) p.arrays)
  unfold prT at hlen;omega
 refine GC.enter Tryz.func26 Tryz.ntmps26 rfl (by simp only [gframe,grep,Nat.reduceSub];rfl) ?_
 refine w_grun ?_
 refine w_gcall [] (hF) ?_
 refine w_grun ?_
 refine GW.range (p.globals.map fun s=>[GV.v (sv s)]).length (fun k fr Γ=>∃ y,fr=[.any,.loc 0 0,.any,.v (sv y),.any,.any,.any,.any,.any,.any,.any,.any,.any,.any,.any,.any,strs p.globals,.v (ii ((p.globals.map fun s=>[GV.v (sv s)]).length:Int)),.v (ii (k:Nat)),.any,.any,.any,.any,.any,.any,.any,.any,.any,.any,.any,.any,.any,.any,.any,.any,.any,.any,.any,.any,.any,.any,.any,.any,.any,.any,.any,.any,.any,.any,.any,.any,.any,.any,.any,.any,.any,.any,.any,.any,.any,.any,.any,.any,.any,.any,.any,.any,.any,.any,.any,.any,.any,.any,.any,.any,.any,.any,.any,.any,.any,.any,.any,.any,.any,.any,.any,.any]∧Γ=[.box 28 (encSrc p)]∧y=catF g1 [] (p.globals.take k)) ?_ (by rw [List.length_map];omega) ?_ ?_ ?_
 ·exact ⟨_,_,Wk.frm w_wkf,_,rfl,rfl,rfl⟩
 ·rintro k _ _ ⟨y,rfl,rfl,_⟩;exact ⟨rfl,rfl,rfl⟩
 ·rintro k _ _ hk ⟨y,rfl,rfl,hy⟩
  have hk:k < p.globals.length:=by simpa using hk
  have hx:p.globals[k]?=some p.globals[k]:=by simp [hk]
  have hr:=row_str hx
  have hyl:=hX1 k
  rw [←hy] at hyl
  have hxl:=a2' _ (List.mem_of_getElem? hx)
  have hnext:catF g1 [] (p.globals.take (k+1))=((y++[105,110,116,32])++p.globals[k])++[59,10]:=by
   rw [List.take_add_one,hx]
   simp only [Option.toList_some]
   rw [catF_snoc,←hy];simp [g1]
  generalize p.globals[k]=x at *
  clear hy
  refine w_grun ?_
  exact ⟨rfl,rfl,_,_,Wk.frm w_wkf,_,rfl,rfl,hnext.symm⟩
 ·rintro _ _ ⟨y,rfl,rfl,hy⟩
  rw [List.length_map,List.take_length] at hy
  rw [←hy] at hX2 hX3
  unfold prT
  rw [←hy]
  clear hy hX1
  refine gthn_n ?_
  refine w_grun ?_
  refine GW.range (p.arrays.map encAr).length (fun k fr Γ=>∃ z,fr=[.any,.loc 0 0,.any,.v (sv z),.any,.any,.any,.any,.any,.any,.any,.any,.any,.any,.any,.any,.any,.any,.any,.any,.any,.any,.any,.any,.any,.any,.any,.any,.any,.sl 2 (p.arrays.map encAr),.v (ii ((p.arrays.map encAr).length:Int)),.v (ii (k:Nat)),.any,.any,.any,.any,.any,.any,.any,.any,.any,.any,.any,.any,.any,.any,.any,.any,.any,.any,.any,.any,.any,.any,.any,.any,.any,.any,.any,.any,.any,.any,.any,.any,.any,.any,.any,.any,.any,.any,.any,.any,.any,.any,.any,.any,.any,.any,.any,.any,.any,.any,.any,.any,.any,.any,.any]∧Γ=[.box 28 (encSrc p)]∧z=catF a1 y (p.arrays.take k)) ?_ (by rw [List.length_map];omega) ?_ ?_ ?_
  ·exact ⟨_,_,Wk.frm w_wkf,_,rfl,rfl,rfl⟩
  ·rintro k _ _ ⟨z,rfl,rfl,_⟩;exact ⟨rfl,rfl,rfl⟩
  ·rintro k _ _ hk ⟨z,rfl,rfl,hz⟩
   have hk:k < p.arrays.length:=by simpa using hk
   have hx:p.arrays[k]?=some p.arrays[k]:=by simp [hk]
   have hr:=row_ar hx
   have hzl:=hX2 k
   rw [←hz] at hzl
   have hxl:=b2' _ (List.mem_of_getElem? hx)
   have hna:=hnum _ (List.mem_of_getElem? hx)
   have hnext:catF a1 y (p.arrays.take (k+1))=((((z++[105,110,116,32])++p.arrays[k].name)++[91])++digs p.arrays[k].size.toNat)++[93,59,10]:=by
    rw [List.take_add_one,hx]
    simp only [Option.toList_some]
    rw [catF_snoc,←hz];unfold a1 itoaI;rw [if_neg (by omega)];simp
   have hc:=NumText_g p.arrays[k].size hna
   have hcl:=Go.Xp.digs_le 9 p.arrays[k].size.toNat (by omega)
   generalize p.arrays[k]=x at *
   clear hz
   unfold encAr at hr
   generalize digs x.size.toNat=dg at *
   refine w_grun ?_
   refine GW.draw (.q 0 (.q 1 (.q 2 (.q 3 (.q 4 (.q 5 (.q 6 (.q 7 (.a 8 (.q 9 (.q 10 (.q 11 .nil)))))))))))) (by kernel_rfl) (by kernel_rfl) ?_
   refine w_gorun ?_
   refine w_gocall [] (hc) ?_
   refine w_gorun ?_
   refine w_grun ?_
   exact ⟨rfl,rfl,_,_,(Wk.cut (n:=1) (Nat.le_of_ble_eq_true rfl) rfl).trans (Wk.frm w_wkf),_,rfl,rfl,hnext.symm⟩
  ·rintro _ _ ⟨z,rfl,rfl,hz⟩
   rw [List.length_map,List.take_length] at hz
   rw [←hz] at hX3 ⊢
   clear hz hX2
   refine gthn_n ?_
   refine w_grun ?_
   refine GW.range (p.fns.map encFn).length (fun k fr Γ=>∃ v,fr=[.any,.loc 0 0,.any,.v (sv v),.any,.any,.any,.any,.any,.any,.any,.any,.any,.any,.any,.any,.any,.any,.any,.any,.any,.any,.any,.any,.any,.any,.any,.any,.any,.any,.any,.any,.any,.any,.any,.any,.any,.any,.any,.any,.any,.any,.any,.any,.any,.any,.any,.any,.sl 3 (p.fns.map encFn),.v (ii ((p.fns.map encFn).length:Int)),.v (ii (k:Nat)),.any,.any,.any,.any,.any,.any,.any,.any,.any,.any,.any,.any,.any,.any,.any,.any,.any,.any,.any,.any,.any,.any,.any,.any,.any,.any,.any,.any,.any,.any,.any,.any,.any,.any,.any,.any]∧Γ=[.box 28 (encSrc p)]∧v=catF f2N z ((p.fns.zip ls).take k)) ?_ (by rw [List.length_map];omega) ?_ ?_ ?_
   ·exact ⟨_,_,Wk.frm w_wkf,_,rfl,rfl,rfl⟩
   ·rintro k _ _ ⟨v,rfl,rfl,_⟩;exact ⟨rfl,rfl,rfl⟩
   ·rintro k _ _ hk ⟨v,rfl,rfl,hv⟩
    have hk:k < p.fns.length:=by simpa using hk
    have hkl:k < ls.length:=by omega
    have hx:p.fns[k]?=some p.fns[k]:=by simp [hk]
    have hxl:ls[k]?=some ls[k]:=by simp [hkl]
    have hr:=row_fn hx
    have hvl:=hX3 k
    rw [←hv] at hvl
    obtain ⟨hn1,hn2,hn3⟩:=c2' _ (List.mem_of_getElem? hx)
    obtain ⟨h0,ho,hwt,t,hsub,her⟩:=hbod.at_ k _ _ hx hxl
    have hs:=sub_g p (fun n hn=>(hsm.nodes.2 n hn).2) _ _ _ hsub
    rw [Int.toNat_of_nonneg h0] at hs
    obtain ⟨z1,z2,z3⟩:=hsz _ (List.mem_of_getElem? hxl)
    have hB:=prB_g ls[k] t 0 ho her (by omega) (by omega)
    have hBl:=hps _ (List.mem_of_getElem? hxl)
    have hkz:(p.fns.zip ls)[k]?=some (p.fns[k],ls[k]):=by rw [List.getElem?_zip_eq_some];exact ⟨hx,hxl⟩
    have hnext:catF f2N z ((p.fns.zip ls).take (k+1))=v++f2N (p.fns[k],ls[k]):=by rw [List.take_add_one,hkz,hv];exact catF_snoc f2N _ _ _
    rw [show f2N (p.fns[k],ls[k])=((((([102,117,110,99,32]++p.fns[k].name)++[40])++joinC p.fns[k].params)++[41,32])++prB 0 ls[k])++[10] from rfl] at hnext
    have hjl:=joinC_le p.fns[k].params
    rw [sum_map2] at hjl
    have hj2:sumL (fun s=>s.length+2) p.fns[k].params≤2 * wS p.fns[k].params:=sumL_lin fun s _=>by omega
    have hj3:wS p.fns[k].params≤1048576:=by
     have:=sumL_mem (f:=fun f:Go.Sp.Fn=>f.name.length+wS f.params+1) (List.mem_of_getElem? hx)
     unfold wSrc at hw;omega
    have hjt:=Go.Xp.joinC_take p.fns[k].params
    have hsuc:∀ (j:Nat) (s:Str),p.fns[k].params[j]?=some s→joinC (p.fns[k].params.take (j+1))=(if j > 0 then joinC (p.fns[k].params.take j)++[44,32] else [])++s:=fun j s h=>joinC_succ h
    generalize p.fns[k]=x at *
    generalize prB 0 ls[k]=bt at *
    unfold encFn at hr
    clear hv
    refine w_grun ?_
    refine GW.range (x.params.map fun s=>[GV.v (sv s)]).length (fun j fr Γ=>∃ u,fr=[.any,.loc 0 0,.any,.v (sv u),.any,.any,.any,.any,.any,.loc 1 0,.any,.any,.any,.any,.any,.any,.any,.any,.any,.any,.any,.any,.any,.any,.any,.any,.any,.any,.any,.any,.any,.any,.any,.any,.any,.any,.any,.any,.any,.any,.any,.any,.any,.any,.any,.any,.any,.any,.sl 3 (p.fns.map encFn),.v (ii ((p.fns.map encFn).length:Int)),.v (ii (k:Nat)),.any,.any,.any,.any,.any,.any,.any,.any,.any,.any,strs x.params,.v (ii ((x.params.map fun s=>[GV.v (sv s)]).length:Int)),.v (ii (j:Nat)),.any,.any,.any,.any,.any,.any,.any,.any,.any,.any,.any,.any,.any,.any,.any,.any,.any,.any,.any,.any,.any,.any,.any]∧Γ=[.box 28 (encSrc p),.box 89 [.v (sv x.name),strs x.params,.v (ii x.body)]]∧u=(((v++[102,117,110,99,32])++x.name)++[40])++joinC (x.params.take j)) ?_ (by rw [List.length_map];omega) ?_ ?_ ?_
    ·exact ⟨_,_,Wk.frm w_wkf,_,rfl,rfl,by simp [joinC]⟩
    ·rintro j _ _ ⟨u,rfl,rfl,_⟩;exact ⟨rfl,rfl,rfl⟩
    ·rintro j _ _ hj ⟨u,rfl,rfl,hu⟩
     have hj:j < x.params.length:=by simpa using hj
     have hjx:x.params[j]?=some x.params[j]:=by simp [hj]
     have hjr:=row_str hjx
     have hjn:=hsuc j _ hjx
     have hjb:=hjt j
     have hul:u.length≤300000000000:=by
      rw [hu];simp only [List.length_append,List.length_cons,List.length_nil];omega
     have hsl:=hn3 _ (List.mem_of_getElem? hjx)
     generalize x.params[j]=s at *
     by_cases h0j:j > 0
     ·have hdj:decide ((0:Int) < (j:Int))=true:=by simpa using h0j
      rw [if_pos h0j] at hjn
      have hun:(u++[44,32])++s=(((v++[102,117,110,99,32])++x.name)++[40])++joinC (x.params.take (j+1)):=by rw [hu,hjn];simp
      clear hu
      refine w_grun ?_
      exact ⟨rfl,rfl,_,_,Wk.frm w_wkf,_,rfl,rfl,hun⟩
     ·have hdj:decide ((0:Int) < (j:Int))=false:=by simpa using h0j
      rw [if_neg h0j] at hjn
      have hj0:j=0:=by omega
      have hun:u++s=(((v++[102,117,110,99,32])++x.name)++[40])++joinC (x.params.take (j+1)):=by rw [hu,hjn,hj0];simp [joinC]
      clear hu
      refine w_grun ?_
      exact ⟨rfl,rfl,_,_,Wk.frm w_wkf,_,rfl,rfl,hun⟩
    ·rintro _ _ ⟨u,rfl,rfl,hu⟩
     rw [List.length_map,List.take_length] at hu
     have hul:u.length≤300000000000:=by
      rw [hu];simp only [List.length_append,List.length_cons,List.length_nil];omega
     have hun:((u++[41,32])++bt)++[10]=catF f2N z ((p.fns.zip ls).take (k+1)):=by rw [hnext,hu];simp
     clear hu
     refine gthn_n ?_
     refine w_grun ?_
     refine w_gcall [] (hs) ?_
     refine w_grun ?_
     refine w_gcall [] (hB) ?_
     refine w_grun ?_
     exact ⟨rfl,rfl,_,_,(Wk.cut (n:=1) (Nat.le_of_ble_eq_true rfl) rfl).trans (Wk.frm w_wkf),_,rfl,rfl,hun⟩
   ·rintro _ _ ⟨v,rfl,rfl,hv⟩
    rw [List.length_map,show (p.fns.zip ls).take p.fns.length=p.fns.zip ls from List.take_of_length_le (by simp;omega)] at hv
    rw [←hv]
    refine gthn_n ?_
    refine w_grun ?_
    refine w_gret ?_
    exact ⟨rfl,rfl⟩
end Go.Xg
namespace Go.Xg
open Go.RowKit Go.Xw Go.Proofs
open Go.Xp (T E S)
open Go.Sp (Src)
open Go.Im
attribute [local irreducible] GW GL GO YG GC GA gthn ginb
theorem l03Cut_g (s:Str) (b:UInt8) (hs:s.length≤1099511627776):GF Tryz.prog 60 [.v (sv s),.v (.int .u8 (b.toNat:Int))] [] (strs (cutL s b)) []:=by
 refine GC.enter Tryz.func60 Tryz.ntmps60 rfl (by simp only [gframe,grep,Nat.reduceSub];rfl) ?_
 refine w_grun ?_
 refine w_gmkv ?_
 refine w_grun ?_
 refine GW.loop (fun st:Nat × Nat × List Str × Nat=>s.length - st.1) (fun st fr Γ=>fr=[.v (sv s),.v (.int .u8 (b.toNat:Int)),.any,.any,.any,.vec 0 st.2.1,.v (ii (st.2.2.2:Nat)),.v (ii (st.1:Nat)),.any,.any,.any,.any,.any,.any,.any,.any,.any,.any,.any,.any,.any,.any,.any,.any,.any,.any,.any,.any,.any,.any,.any,.any,.any,.any,.any]∧Γ=[.vec 9 1 0 (st.2.2.1.map fun s=>[GV.v (sv s)])]∧st.2.2.1.length=st.2.1∧cutK s b st.1=st.2.2∧st.1≤s.length) (0,0,[],0) ?_ ?_
 ·exact ⟨_,_,Wk.frm w_wkf,rfl,rfl,rfl,rfl,Nat.zero_le _⟩
 rintro ⟨k,n,acc,from_⟩ _ _ ⟨rfl,rfl,hn0,hck,hk⟩
 simp only at hn0 hck hk
 have hn:(acc.map fun s=>[GV.v (sv s)]).length=n:=by simp [hn0]
 have hfr:=cutK_from s b k hk
 have hsm:=cutK_small s b k hk
 rw [hck] at hfr hsm
 simp only at hfr hsm
 by_cases hlt:k < s.length
 ·have hd:decide ((k:Int) < (s.length:Int))=true:=by simpa using hlt
  have hc:s[k]?=some s[k]:=by simp [hlt]
  have hstep:cutK s b (k+1)=(if ((s[k].toNat:Int)==(b.toNat:Int))=true then (acc++[(s.take k).drop from_],k+1) else (acc,from_)):=by rw [cutK,hc,hck]
  generalize s[k]=c at *
  by_cases heq:((c.toNat:Int)==(b.toNat:Int))=true
  ·rw [if_pos heq] at hstep
   have hb:n+1≤9223372036854775807∧(n+1) * 16≤140737488355328:=by omega
   refine w_grun ?_
   refine w_gpush ?_
   refine w_grun ?_
   exact ⟨(k+1,n+1,acc++[(s.take k).drop from_],k+1),⟨_,_,Wk.frm w_wkf,rfl,by simp,by simp [hn0],hstep,hlt⟩,by show s.length - (k+1) < s.length - k;omega⟩
  ·have heq:((c.toNat:Int)==(b.toNat:Int))=false:=by simpa using heq
   rw [if_neg (by rw [heq];decide)] at hstep
   refine w_grun ?_
   exact ⟨(k+1,n,acc,from_),⟨_,_,Wk.frm w_wkf,rfl,rfl,hn0,hstep,hlt⟩,by show s.length - (k+1) < s.length - k;omega⟩
 ·have hd:decide ((k:Int) < (s.length:Int))=false:=by simpa using hlt
  have hke:k=s.length:=by omega
  subst hke
  have hcut:cutL s b=acc++[s.drop from_]:=by rw [cutL,hck]
  have hb:n+1≤9223372036854775807∧(n+1) * 16≤140737488355328:=by omega
  have hres:strs (cutL s b)=.sl 1 ((acc.map fun s=>[GV.v (sv s)])++[[.v (sv (s.drop from_))]]):=by rw [hcut];simp [strs]
  rw [hres]
  refine w_grun ?_
  refine w_gexit ?_
  refine w_grun ?_
  refine w_gpush ?_
  refine w_grun ?_
  refine GW.wk (Wk.snap (t:=4) rfl rfl rfl (by rw [List.length_append,hn];rfl)) ?_
  refine w_gret ?_
  exact ⟨rfl,rfl⟩
theorem LinesOf_of (p:Src) (x:Str) (hx:x.length≤1099511627776) (hP:GF Tryz.prog 26 [.agg (encSrc p)] [] (.v (sv x)) []):GF Tryz.prog 22 [.agg (encSrc p)] [] (.v (ii ((x.count 10:Nat):Int))) []:=by
 have hC:=l03Cut_g x 10 hx
 have hm:((cutL x 10).map fun s=>[GV.v (sv s)]).length=x.count 10+1:=by rw [List.length_map,cutL_len]
 have hcl:x.count 10≤x.length:=List.count_le_length
 rw [show ((x.count 10:Nat):Int)=(((cutL x 10).map fun s=>[GV.v (sv s)]).length:Int) - 1 by rw [hm];omega]
 generalize cutL x 10=cl at *
 refine GC.enter Tryz.func22 Tryz.ntmps22 rfl (by simp only [gframe,grep,Nat.reduceSub];rfl) ?_
 refine w_grun ?_
 refine w_gcall [] (hP) ?_
 refine w_grun ?_
 refine w_gcall [] (hC) ?_
 refine w_grun ?_
 refine w_gret ?_
 exact ⟨rfl,rfl⟩
end Go.Xg
namespace Go.Xg
open Go.RowKit Go.Xw Go.Proofs
open Go.Sp (Src)
open Go.Im
attribute [local irreducible] GW GL GO YG GC GA gthn ginb
theorem Pretty_g (p:Src) (hw:wSrc p≤1048576):GF Tryz.prog 26 [.agg (encSrc p)] [] (.v (sv (prP p))) []:=by
 have hF:=FormOk2_g p hw
 cases hf:fI p with
 | false=>rw [hf] at hF;rw [prP_no hf];exact Pretty_no p hF
 | true =>
  rw [hf] at hF
  obtain ⟨l,hl⟩:=fI_stands hf
  obtain ⟨ls,hm⟩:=hl.forms
  rw [prP_yes hf hl hm]
  exact Pretty_yes p l ls hw hl hm hF
theorem LinesOf_g (p:Src) (hw:wSrc p≤1048576) (hn:Nums p):GF Tryz.prog 22 [.agg (encSrc p)] [] (.v (ii (((prP p).count 10:Nat):Int))) []:=by
 have:=prP_len hw
 exact LinesOf_of p (prP p) (by omega) (Pretty_g p hw)
end Go.Xg

namespace Go.Xg
open Go.RowKit Go.Xw Go.Proofs
open Go.Xp (Tok Nd T Ar szT szL flL)
open Go.Sp (Src)
open Go.Im
attribute [local irreducible] GW GL GO YG GC GA gthn ginb
theorem repeat_blanks (d:Nat):Go.Lib.repeatL [32,32] d=blanks d:=by
 induction d with
 | zero=>rfl
 | succ d ih =>
  rw [Go.Lib.repeatL,ih]
  unfold blanks
  rw [show 2 * (d+1)=2 * d+1+1 by omega,List.replicate_succ,List.replicate_succ];rfl
theorem Repeat_g (d:Nat) (hd:d≤1099511627776):GF Tryz.prog 111 [.v (sv [32,32]),.v (ii (d:Nat))] [] (.v (sv (blanks d))) []:=by
 refine GF.lib (vs:=[sv [32,32],ii (d:Nat)]) fun K β w ht hf=>?_
 refine Ret.of_calls' (Calls.mono (Tryz.strings_Repeat ⟨#[32,32]⟩ d w (by omega) (by show 2 * d≤_;omega)) ?_)
 rintro e w' ⟨h2,hb⟩
 refine ⟨_,h2,by rw [←repeat_blanks];rfl,?_⟩
 exact ⟨hb.os,hb.tape,hb.output,hb.size,fun k hk _=>hb.block k hk⟩
theorem inLines_i (l:List Str) (d:Nat) (hb:(inlN l d).length≤1099511627776) (hl:l.length≤1099511627776):GF Tryz.prog 64 [strs l,.v (ii (d:Nat))] [] (.v (sv (inlN l d))) []:=by
 have hml:(l.map fun s=>[GV.v (sv s)]).length=l.length:=by simp
 have hin:=inlN_len l d
 have hcl:=catN_len d l [123,10]
 have hbl:=blanks_len d
 have hbl1:=blanks_len (d+1)
 have hR:=Repeat_g d (by omega)
 unfold inlN
 by_cases hl0:l=[]
 ·subst hl0
  rw [show catN d [123,10] []=[123,10] from rfl]
  generalize blanks d=bk at *
  have hlt:decide ((0:Int) < 0)=false:=by decide
  refine GC.enter Tryz.func64 Tryz.ntmps64 rfl (by simp only [gframe,grep,Nat.reduceSub];rfl) ?_
  refine w_grun ?_
  refine GW.range (([]:List Str).map fun s=>[GV.v (sv s)]).length (fun k fr Γ=>fr=[strs [],.v (ii (d:Nat)),.any,.any,.any,.v (sv [123,10]),.any,.any,strs [],.v (ii ((([]:List Str).map fun s=>[GV.v (sv s)]).length:Int)),.v (ii (k:Nat)),.any,.any,.any,.any,.any,.any,.any,.any,.any,.any,.any,.any,.any,.any,.any,.any,.any]∧Γ=[]) ?_ (by simp) ?_ ?_ ?_
  ·exact ⟨_,_,Wk.frm w_wkf,rfl,rfl⟩
  ·rintro k _ _ ⟨rfl,rfl⟩;exact ⟨rfl,rfl,rfl⟩
  ·rintro k _ _ hlt ⟨rfl,rfl⟩;simp at hlt
  ·rintro _ _ ⟨rfl,rfl⟩
   refine w_grun ?_
   refine w_gcall [] (hR) ?_
   refine w_grun ?_
   refine w_gret ?_
   exact ⟨rfl,rfl⟩
 have hd1:d+1≤549755813888:=by
  obtain ⟨s,hs⟩:=List.exists_mem_of_ne_nil l hl0
  have:=sumN_mem (d:=d) hs
  omega
 have hR1:=Repeat_g (d+1) (by omega)
 rw [Int.natCast_add,Int.natCast_one] at hR1
 have hsn:=sumN_take d l
 refine GC.enter Tryz.func64 Tryz.ntmps64 rfl (by simp only [gframe,grep,Nat.reduceSub];rfl) ?_
 refine w_grun ?_
 refine GW.range (l.map fun s=>[GV.v (sv s)]).length (fun k fr Γ=>fr=[strs l,.v (ii (d:Nat)),.any,.any,.any,.v (sv (catN d [123,10] (l.take k))),.any,.any,strs l,.v (ii ((l.map fun s=>[GV.v (sv s)]).length:Int)),.v (ii (k:Nat)),.any,.any,.any,.any,.any,.any,.any,.any,.any,.any,.any,.any,.any,.any,.any,.any,.any]∧Γ=[]) ?_ (by omega) ?_ ?_ ?_
 ·exact ⟨_,_,Wk.frm w_wkf,rfl,rfl⟩
 ·rintro k _ _ ⟨rfl,rfl⟩;exact ⟨rfl,rfl,rfl⟩
 ·rintro k _ _ hlt ⟨rfl,rfl⟩
  rw [hml] at hlt
  have hki:l[k]?=some l[k]:=by simp [hlt]
  have hkr:(l.map fun s=>[GV.v (sv s)])[k]?=some [.v (sv l[k])]:=by rw [List.getElem?_map,hki];rfl
  have h1:=catN_len d (l.take k) [123,10]
  have h2:=hsn k
  have h3:=sumN_mem (d:=d) (List.mem_of_getElem? hki)
  rw [show l.take (k+1)=l.take k++[l[k]] by rw [List.take_add_one,hki];rfl,catN_snoc] at ⊢
  generalize l[k]=z at *
  generalize catN d [123,10] (l.take k)=acc at *
  generalize blanks (d+1)=bk1 at *
  simp only [List.length_cons,List.length_nil] at h1
  have hfin:acc.length≤1099511627776∧z.length≤1099511627776:=by omega
  refine w_grun ?_
  refine w_gcall [] (hR1) ?_
  refine w_grun ?_
  exact ⟨rfl,rfl,_,_,Wk.frm w_wkf,rfl,rfl⟩
 ·rintro _ _ ⟨rfl,rfl⟩
  rw [hml,List.take_length]
  generalize catN d [123,10] l=acc at *
  generalize blanks d=bk at *
  simp only [List.length_cons,List.length_nil] at hcl
  refine w_grun ?_
  refine w_gcall [] (hR) ?_
  refine w_grun ?_
  refine w_gret ?_
  exact ⟨rfl,rfl⟩
theorem wr_lines:Wr 37 64 tiT inlN :=
 ⟨fun a h1 h2 h3=>tight_i _ a (Nat.le_refl _) h1 h2 h3,fun l d h1 h2 h3=>inLines_i l d h1 h2,fun l d s h=>inlN_mem h⟩
theorem Pretty_ino (p:Src) (hF:GF Tryz.prog 35 [.agg (encSrc p)] [] (.v (.bool false)) []):GF Tryz.prog 25 [.agg (encSrc p)] [] (.v (sv [])) []:=by
 refine GC.enter Tryz.func25 Tryz.ntmps25 rfl (by simp only [gframe,grep,Nat.reduceSub];rfl) ?_
 refine w_grun ?_
 refine w_gcall [] (hF) ?_
 refine w_grun ?_
 refine w_gret ?_
 exact ⟨rfl,rfl⟩
theorem Pretty_iyes (p:Src) (l:List T) (x:Str) (hF:GF Tryz.prog 35 [.agg (encSrc p)] [] (.v (.bool true)) []) (hB:GF Tryz.prog 62 [.agg (encSrc p)] [] (.tup [.sl 1 (tTs l),.v (.bool true)]) [])
  (hL:GF Tryz.prog 63 [.agg (encSrc p),.sl 1 (tTs l),.v (fnv 37),.v (fnv 64)] [] (.v (sv x)) []) :
  GF Tryz.prog 25 [.agg (encSrc p)] [] (.v (sv x)) []:=by
 refine GC.enter Tryz.func25 Tryz.ntmps25 rfl (by simp only [gframe,grep,Nat.reduceSub];rfl) ?_
 refine w_grun ?_
 refine w_gcall [] (hF) ?_
 refine w_grun ?_
 refine w_gcall [] (hB) ?_
 refine w_grun ?_
 refine w_gcall [] (hL) ?_
 refine w_grun ?_
 refine w_gret ?_
 exact ⟨rfl,rfl⟩
theorem Pretty_i (p:Src) (hw:wSrc p≤1048576) (hn:Nums p):GF Tryz.prog 25 [.agg (encSrc p)] [] (.v (sv (prP p))) []:=by
 have hF:=FormOk2_i p hw hn
 cases hf:fI p with
 | false=>rw [hf] at hF;rw [prP_no hf];exact Pretty_ino p hF
 | true =>
  rw [hf] at hF
  obtain ⟨l,hs⟩:=fI_stands hf
  obtain ⟨ls,hm⟩:=hs.forms
  have hpl:=prP_len hw
  rw [prP_yes hf hs hm,←lay_pr hm] at hpl ⊢
  obtain ⟨⟨s1,s2⟩,⟨s3,s4⟩,⟨s5,s6⟩,⟨s7,s8⟩⟩:=small_w p
  have hB:=bodies_i p (by omega) (fun n h=>by have:=(s8 n h).2;omega) (by omega)
  rw [hs.bod] at hB
  unfold bodG at hB
  simp only at hB
  rw [show ((p.nodes.length:Int)==(p.nodes.length:Int))=true by simp] at hB
  have hz:=hs.len
  have h2:=hs.st
  have htl:=tree_len h2 hz
  have hll:=FSq.len hs.fns
  have hnum:=StL.num hn.nodes l 0 h2
  have hk:=hs.k
  refine Pretty_iyes p l _ hF hB (layout_i 37 64 tiT inlN wr_lines p l (by omega) (by omega) (by omega) (by omega) (by omega) hn.arrays (fun f h=>by have:=(s6 f h).2.1;omega)
   (fun t ht=>⟨List.all_eq_true.1 hk t ht,numTs_mem hnum ht,by have:=(htl t ht).1;omega,by have:=(htl t ht).2;omega⟩))
theorem Count_g (x:Str):GF Tryz.prog 61 [.v (sv x),.v (sv [10])] [] (.v (ii ((x.count 10:Nat):Int))) []:=by
 refine GF.lib (vs:=[sv x,sv [10]]) fun K β w ht hf=>?_
 refine Ret.of_calls (Calls.mono (Tryz.strings_Count_one ⟨x.toArray⟩ 10 w) ?_)
 rintro e w' ⟨h1,h2⟩
 exact ⟨_,h1,rfl,by rw [h2];exact Ext.refl w⟩
theorem LinesOf_i (p:Src) (hw:wSrc p≤1048576) (hn:Nums p):GF Tryz.prog 23 [.agg (encSrc p)] [] (.v (ii (((prP p).count 10:Nat):Int))) []:=by
 have hP:=Pretty_i p hw hn
 have hC:=Count_g (prP p)
 generalize (prP p).count 10=n at *
 generalize prP p=x at *
 refine GC.enter Tryz.func23 Tryz.ntmps23 rfl (by simp only [gframe,grep,Nat.reduceSub];rfl) ?_
 refine w_grun ?_
 refine w_gcall [] (hP) ?_
 refine w_grun ?_
 refine w_gcall [] (hC) ?_
 refine w_grun ?_
 refine w_gret ?_
 exact ⟨rfl,rfl⟩
end Go.Xg
