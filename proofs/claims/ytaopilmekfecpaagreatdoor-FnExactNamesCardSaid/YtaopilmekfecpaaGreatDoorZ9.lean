/- Part 9 of proofs that are told in their last texts. -/
import Derived.Test.YtaopilmekfecpaaGreatDoorZ8
import Derived.Test.YtaopilmekfecpaaGreatDoorZ1
import Derived.Test.YtaopilmekfecpaaGreatDoorZ6
import Derived.Test.YtaopilmekfecpaaGreatDoorZ2
import Derived.Test.YtaopilmekfecpaaGreatDoorZ5
import Derived.Test.YtaopilmekfecpaaGreatDoorZ3
import Derived.Test.YtaopilmekfecpaaGreatDoorZ7
set_option linter.unusedVariables false
set_option linter.unusedSimpArgs false
set_option maxHeartbeats 1000000
set_option maxRecDepth 100000
namespace Go.Xg
open Go.RowKit Go.Xw Go.Proofs
open Go.Xp (Tok Nd T signOf one levels kwVar kwIf kwElse kwWhile kwReturn Job SJob)
open Go.Sp Go.Im
attribute [local irreducible] GW GL GO YG GC GA gthn ginb
theorem newTree_0 (k a:Int) (s:Str):GF Tryz.prog 185 [.v (ii k),.v (ii a),.v (sv s),.v (.slice none 0 0)] [] (.loc 0 0) [.box 111 [.v (ii k),.v (ii a),.v (ii 0),.v (sv s),.v (.slice none 0 0),.v (.slice none 0 0)]]:=by
 refine GC.enter Tryz.func185 Tryz.ntmps185 rfl (by simp only [gframe,grep,Nat.reduceSub];rfl) ?_
 refine w_grun ?_
 refine GW.wk (Wk.cells 0 rfl (ds:=[.v (ii k),.v (ii a),.v (ii 0),.v (sv s),.v (.slice none 0 0),.v (.slice none 0 0)]) w_gle) ?_
 refine GW.ret ?_
 refine gbp1 (n:=1) rfl (by first | exact .inr rfl | exact .inl rfl) rfl (Nat.zero_le _) rfl rfl ?_
 exact ⟨rfl,rfl⟩
structure Iss (f:Nat):Prop where
 block:∀ d p t q x,p.ok→d+3+f≤1099511627776→iS f (.block d) p=some (t,q)→GF Tryz.prog 144 [.loc 0 0,.v (ii (d:Nat))] [encPR p x] (qT t) [encPR q x]
 stmt:∀ d p t q x,p.ok→d+3+f≤1099511627776→iS f (.stmt d) p=some (t,q)→GF Tryz.prog 187 [.loc 0 0,.v (ii (d:Nat))] [encPR p x] (qT t) [encPR q x]
theorem block_i {f:Nat} (C:∀ f',f'≤f→Iss f') (d:Nat) (p:RS) (t:T) (q:RS) (x:PX) (hp:p.ok) (hd:d+3+(f+1)≤1099511627776) (h:iS (f+1) (.block d) p=some (t,q)) :
  GF Tryz.prog 144 [.loc 0 0,.v (ii (d:Nat))] [encPR p x] (qT t) [encPR q x]:=by
 rw [iS] at h
 have hdp:=deeper_i p d x hp
 have ht:=tok_g p 0 x hp (by decide)
 have hn0:=newTree_0 14 (tok p 0).at_ []
 by_cases hc:(deeper p d).code=0
 case neg =>
  have hc':((deeper p d).code==0)=false:=by simpa using hc
  rw [if_neg hc] at h
  rw [hc'] at hdp
  cases h
  generalize tok p 0=tk at *
  refine GC.enter Tryz.func144 Tryz.ntmps144 rfl (by simp only [gframe,grep,Nat.reduceSub];rfl) ?_
  refine w_grun ?_
  refine w_gcall [0] (ht) ?_
  refine w_grun ?_
  refine w_gcall [] (hn0) ?_
  refine w_grun ?_
  refine w_gcall [0] (hdp) ?_
  refine w_grun ?_
  refine GW.wk (Wk.cells 1 rfl (ds:=[.v (ii 14),.v (ii tk.at_),.v (ii 0),.v (sv []),.v (.slice none 0 0),.sl 1 []]) w_gle) ?_
  refine GW.wk (Wk.freeze (i:=1) rfl rfl rfl (Nat.le_of_ble_eq_true rfl)) ?_
  refine w_gret ?_
  exact ⟨rfl,rfl⟩
 case pos =>
 have hc':((deeper p d).code==0)=true:=by simpa using hc
 rw [if_pos hc] at h
 rw [hc',deeper_same hc] at hdp
 clear hc hc'
 have hpw:=(to_want hp [123]).ok hp
 have hw:=want_i p [123] x hp
 cases he:iB f (d+1) [] (want p [123]) with
 | none=>rw [he] at h;cases h
 | some r =>
  obtain ⟨l,q1⟩:=r
  rw [he] at h
  cases h
  generalize tok p 0=tk at *
  refine GC.enter Tryz.func144 Tryz.ntmps144 rfl (by simp only [gframe,grep,Nat.reduceSub];rfl) ?_
  refine w_grun ?_
  refine w_gcall [0] (ht) ?_
  refine w_grun ?_
  refine w_gcall [] (hn0) ?_
  refine w_grun ?_
  refine w_gcall [0] (hdp) ?_
  refine w_grun ?_
  refine w_gmk ?_
  refine w_grun ?_
  refine w_gcall [0] (hw) ?_
  refine w_grun ?_
  refine GW.wk (Wk.nilC (i:=1) (o:=5) 62 1 rfl rfl) ?_
  refine GW.loop (fun z:Nat × List T × RS=>z.1) (fun z fr Γ=>∃ n rows,fr=[.loc 0 0,.v (ii (d:Nat)),.any,.any,.any,.loc 1 0,.any,.any,.any,.any,.any,.any,.any,.any,.any,.any,.any,.any,.any,.any,.any,.any,.any,.any,.any,.any,.any,.any,.any,.any,.any,.any,.any,.any,.any,.any,.any,.any,.any,.any,.any,.any,.any,.any,.any]∧Γ=[encPR z.2.2 x,.box 111 [.v (ii 14),.v (ii tk.at_),.v (ii 0),.v (sv []),.v (.slice none 0 0),.vec 2 n],.vec 62 1 0 rows]∧rows.length=n∧rows=pTs z.2.1∧n+z.1≤f∧z.2.2.ok∧iB z.1 (d+1) z.2.1 z.2.2=some (l,q1)) (f,[],want p [123]) ?_ ?_
  ·exact ⟨_,_,Wk.frm w_wkf,0,[],rfl,rfl,rfl,rfl,by simp,hpw,he⟩
  ·clear he hpw hw hdp ht
   rintro ⟨g,acc,p⟩ _ _ ⟨n,rows,rfl,rfl,hn,hrow,hng,hp,h⟩
   simp only at hrow hng hp h
   cases g with
   | zero=>simp [iB] at h
   | succ g =>
   rw [iB] at h
   have hi:=is_i p 0 [125] x hp (by decide)
   by_cases hc:p.code=0
   ·have hc':(p.code==0)=true:=by simpa using hc
    cases hs:is p 0 [125] with
    | true =>
     rw [hs] at hi
     rw [if_neg (fun hh=>by have:=hh.2;rw [hs] at this;cases this)] at h
     obtain ⟨rfl,rfl⟩:acc=l∧p=q1:=by simpa using h
     have hw:=want_i p [125] x hp
     subst hrow
     refine w_grun ?_
     refine w_gcall [0] (hi) ?_
     refine w_grun ?_
     refine w_gexit ?_
     refine w_grun ?_
     refine w_gmk ?_
     refine w_grun ?_
     refine w_gcall [0] (hw) ?_
     refine w_grun ?_
     refine GW.wk (Wk.snapC (i:=1) (o:=5) rfl rfl rfl rfl hn) ?_
     refine GW.wk (Wk.freeze (i:=1) rfl rfl rfl (Nat.le_of_ble_eq_true rfl)) ?_
     refine w_gret ?_
     exact ⟨rfl,rfl⟩
    | false =>
     rw [hs] at hi
     rw [if_pos ⟨hc,hs⟩] at h
     cases hb:iS g (.stmt (d+1)) p with
     | none=>rw [hb] at h;cases h
     | some r =>
      obtain ⟨a,p2⟩:=r
      rw [hb] at h
      simp only at h
      have hp2:=((iS_to g).1 _ _ _ _ hp hb).ok hp
      have hst:=(C g (by omega)).stmt (d+1) p a p2 x hp (by omega) hb
      refine w_grun ?_
      refine w_gcall [0] (hi) ?_
      refine w_grun ?_
      refine GW.draw (.q 0 (.q 1 (.q 2 (.q 3 (.q 4 (.q 5 (.q 6 (.q 7 (.a 8 (.a 9 (.a 10 (.q 11 (.q 12 (.a 13 .nil)))))))))))))) (by kernel_rfl) (by kernel_rfl) ?_
      refine w_gorun ?_
      refine w_gocall [0] (hst) ?_
      refine w_gorun ?_
      refine w_gomk ?_
      refine w_gorun ?_
      refine w_goapp ?_
      refine w_gorun ?_
      refine w_grun ?_
      exact ⟨(g,acc++[a],p2),⟨_,_,Wk.frm w_wkf,_,_,rfl,rfl,by simp [hn],by rw [pTs_app,hrow];rfl,by show n+1+g≤f;omega,hp2,h⟩,by simp⟩
   ·have hc':(p.code==0)=false:=by simpa using hc
    rw [if_neg (fun hh=>hc hh.1)] at h
    obtain ⟨rfl,rfl⟩:acc=l∧p=q1:=by simpa using h
    have hw:=want_i p [125] x hp
    subst hrow
    refine w_grun ?_
    refine w_gexit ?_
    refine w_grun ?_
    refine w_gmk ?_
    refine w_grun ?_
    refine w_gcall [0] (hw) ?_
    refine w_grun ?_
    refine GW.wk (Wk.snapC (i:=1) (o:=5) rfl rfl rfl rfl hn) ?_
    refine GW.wk (Wk.freeze (i:=1) rfl rfl rfl (Nat.le_of_ble_eq_true rfl)) ?_
    refine w_gret ?_
    exact ⟨rfl,rfl⟩
theorem stmt_i {f:Nat} (C:Iss f) (d:Nat) (p:RS) (t:T) (q:RS) (x:PX) (hp:p.ok) (hd:d+3+(f+1)≤1099511627776) (h:iS (f+1) (.stmt d) p=some (t,q)) :
  GF Tryz.prog 187 [.loc 0 0,.v (ii (d:Nat))] [encPR p x] (qT t) [encPR q x]:=by
 rw [iS] at h
 have E:=ies f
 have hdp:=deeper_i p d x hp
 have ht:=tok_g p 0 x hp (by decide)
 by_cases hc:(deeper p d).code=0
 case neg =>
  have hc':((deeper p d).code==0)=false:=by simpa using hc
  rw [if_neg hc] at h
  rw [hc'] at hdp
  cases h
  refine GC.enter Tryz.func187 Tryz.ntmps187 rfl (by simp only [gframe,grep,Nat.reduceSub];rfl) ?_
  refine w_grun ?_
  refine w_gcall [0] (ht) ?_
  refine w_grun ?_
  refine w_gcall [0] (hdp) ?_
  refine w_grun ?_
  refine w_gcall [] (zero_g) ?_
  refine w_grun ?_
  refine w_gret ?_
  exact ⟨rfl,rfl⟩
 case pos =>
 have hc':((deeper p d).code==0)=true:=by simpa using hc
 rw [if_pos hc] at h
 rw [hc',deeper_same hc] at hdp
 clear hc hc'
 have hpl:=hp.2
 have hpi:=hp.1
 have h1:=is_i p 0 kwVar x hp (by decide)
 have h2:=is_i p 0 kwIf x hp (by decide)
 have h3:=is_i p 0 kwWhile x hp (by decide)
 have h4:=is_i p 0 kwReturn x hp (by decide)
 cases hs1:is p 0 kwVar with
 | true =>
  rw [hs1] at h1
  rw [if_pos hs1] at h
  have hlt:p.i < p.l.length:=is_lt (k:=0) hs1
  have hpn:=(to_next hlt).ok hp
  have hn:=nameS_i p.next x hpn
  have hpm:=(to_nameS hpn).ok hpn
  have hw:=want_i _ [61] x hpm
  have hpw:=(to_want hpm [61]).ok hpm
  cases he:iE f (.expr (d+1)) (want (nameS p.next) [61]) with
  | none=>rw [he] at h;cases h
  | some r =>
   obtain ⟨e,q1⟩:=r
   rw [he] at h
   cases h
   have hq1:=((iE_to f).1 _ _ _ _ hpw he).ok hpw
   have hex:=E.expr (d+1) _ e q1 x hpw (by omega) he
   have hw2:=want_i q1 [59] x hq1
   have hnt:=newTree_g 13 (tok p 0).at_ (tok p.next 0).s [e] [[qT e]] (pTs_map _)
   generalize tok p 0=tk at *
   generalize tok p.next 0=tn at *
   refine GC.enter Tryz.func187 Tryz.ntmps187 rfl (by simp only [gframe,grep,Nat.reduceSub];rfl) ?_
   refine w_grun ?_
   refine w_gcall [0] (ht) ?_
   refine w_grun ?_
   refine w_gcall [0] (hdp) ?_
   refine w_grun ?_
   refine w_gcall [0] (h1) ?_
   refine w_grun ?_
   refine w_gcall [0] (hn) ?_
   refine w_grun ?_
   refine w_gmk ?_
   refine w_grun ?_
   refine w_gcall [0] (hw) ?_
   refine w_grun ?_
   refine w_gcall [0] (hex) ?_
   refine w_grun ?_
   refine w_gmk ?_
   refine w_grun ?_
   refine w_gcall [0] (hw2) ?_
   refine w_grun ?_
   refine w_gmk ?_
   refine w_grun ?_
   refine w_gcall [] (hnt) ?_
   refine w_grun ?_
   refine w_gret ?_
   exact ⟨rfl,rfl⟩
 | false =>
 rw [hs1] at h1
 rw [if_neg (by rw [hs1];decide)] at h
 have main:∀ bi bw:Bool,is p 0 kwIf=bi→is p 0 kwWhile=bw→(bi=true∨bw=true)→GF Tryz.prog 187 [.loc 0 0,.v (ii (d:Nat))] [encPR p x] (qT t) [encPR q x]:=by
  intro bi bw hbi hbw hor
  have hcond:is p 0 kwIf=true∨is p 0 kwWhile=true:=by rw [hbi,hbw];exact hor
  have hlt:p.i < p.l.length:=by rcases hcond with hh | hh <;> exact is_lt (k:=0) hh
  rw [if_pos hcond] at h
  have hpn:=(to_next hlt).ok hp
  have hw:=want_i p.next [40] x hpn
  have hpw:=(to_want hpn [40]).ok hpn
  cases he:iE f (.expr (d+1)) (want p.next [40]) with
  | none=>rw [he] at h;cases h
  | some r =>
  obtain ⟨c,q1⟩:=r
  rw [he] at h
  simp only at h
  have hq1:=((iE_to f).1 _ _ _ _ hpw he).ok hpw
  have hex:=E.expr (d+1) _ c q1 x hpw (by omega) he
  have hw2:=want_i q1 [41] x hq1
  have hqw:=(to_want hq1 [41]).ok hq1
  cases hb:iS f (.block (d+1)) (want q1 [41]) with
  | none=>rw [hb] at h;cases h
  | some r =>
  obtain ⟨b,q2⟩:=r
  rw [hb] at h
  simp only at h
  have hq2:=((iS_to f).1 _ _ _ _ hqw hb).ok hqw
  have hq2l:=hq2.2
  have hq2i:=hq2.1
  have hblk:=C.block (d+1) _ b q2 x hqw (by omega) hb
  have hel:=is_i q2 0 kwElse x hq2 (by decide)
  rw [hbi] at h2
  rw [hbw] at h3
  cases bi with
  | true =>
   have htest:∀ (cc ee:Bool),(q2.code==0)=cc→is q2 0 kwElse=ee→(cc=false∨ee=false)→GF Tryz.prog 187 [.loc 0 0,.v (ii (d:Nat))] [encPR p x] (qT t) [encPR q x]:=by
    intro cc ee hcc hee hor2
    rw [if_neg (fun hh=>by
     rcases hor2 with h0 | h0
     ·rw [h0] at hcc;have:=hh.2.1;simp [this] at hcc
     ·rw [h0] at hee;rw [hee] at hh;exact absurd hh.2.2 (by decide)),if_pos hbi] at h
    cases h
    rw [hee] at hel
    have hnt:=newTree_g 9 (tok p 0).at_ [] [c,b] [[qT c],[qT b]] (pTs_map _)
    generalize tok p 0=tk at *
    cases cc with
    | true =>
     cases ee with
     | true=>simp at hor2
     | false =>
      refine GC.enter Tryz.func187 Tryz.ntmps187 rfl (by simp only [gframe,grep,Nat.reduceSub];rfl) ?_
      refine w_grun ?_
      refine w_gcall [0] (ht) ?_
      refine w_grun ?_
      refine w_gcall [0] (hdp) ?_
      refine w_grun ?_
      refine w_gcall [0] (h1) ?_
      refine w_grun ?_
      refine w_gcall [0] (h2) ?_
      refine w_grun ?_
      refine w_gcall [0] (h2) ?_
      refine w_grun ?_
      refine w_gmk ?_
      refine w_grun ?_
      refine w_gcall [0] (hw) ?_
      refine w_grun ?_
      refine w_gcall [0] (hex) ?_
      refine w_grun ?_
      refine w_gmkv ?_
      refine w_grun ?_
      refine w_gmk ?_
      refine w_grun ?_
      refine w_gcall [0] (hw2) ?_
      refine w_grun ?_
      refine w_gcall [0] (hblk) ?_
      refine w_grun ?_
      refine w_gpush ?_
      refine w_grun ?_
      refine w_gcall [0] (hel) ?_
      refine w_grun ?_
      refine GL.wk (Wk.snap (t:=108) rfl rfl rfl rfl) ?_
      refine w_gnmb ?_
      refine w_gcall [] (hnt) ?_
      refine w_grun ?_
      refine w_gret ?_
      exact ⟨rfl,rfl⟩
    | false =>
     refine GC.enter Tryz.func187 Tryz.ntmps187 rfl (by simp only [gframe,grep,Nat.reduceSub];rfl) ?_
     refine w_grun ?_
     refine w_gcall [0] (ht) ?_
     refine w_grun ?_
     refine w_gcall [0] (hdp) ?_
     refine w_grun ?_
     refine w_gcall [0] (h1) ?_
     refine w_grun ?_
     refine w_gcall [0] (h2) ?_
     refine w_grun ?_
     refine w_gcall [0] (h2) ?_
     refine w_grun ?_
     refine w_gmk ?_
     refine w_grun ?_
     refine w_gcall [0] (hw) ?_
     refine w_grun ?_
     refine w_gcall [0] (hex) ?_
     refine w_grun ?_
     refine w_gmkv ?_
     refine w_grun ?_
     refine w_gmk ?_
     refine w_grun ?_
     refine w_gcall [0] (hw2) ?_
     refine w_grun ?_
     refine w_gcall [0] (hblk) ?_
     refine w_grun ?_
     refine w_gpush ?_
     refine w_grun ?_
     refine GL.wk (Wk.snap (t:=108) rfl rfl rfl rfl) ?_
     refine w_gnmb ?_
     refine w_gcall [] (hnt) ?_
     refine w_grun ?_
     refine w_gret ?_
     exact ⟨rfl,rfl⟩
   by_cases hc2:q2.code=0
   ·cases hee:is q2 0 kwElse with
    | true =>
     clear htest
     rw [if_pos ⟨hbi,hc2,hee⟩] at h
     rw [hee] at hel
     have hcc:(q2.code==0)=true:=by simpa using hc2
     have hlt2:q2.i < q2.l.length:=is_lt (k:=0) hee
     have hqn:=(to_next hlt2).ok hq2
     cases hb2:iS f (.block (d+1)) q2.next with
     | none=>rw [hb2] at h;cases h
     | some r =>
      obtain ⟨b2,q3⟩:=r
      rw [hb2] at h
      cases h
      have hblk2:=C.block (d+1) _ b2 _ x hqn (by omega) hb2
      have hnt:=newTree_g 9 (tok p 0).at_ [] [c,b,b2] [[qT c],[qT b],[qT b2]] (pTs_map _)
      generalize tok p 0=tk at *
      refine GC.enter Tryz.func187 Tryz.ntmps187 rfl (by simp only [gframe,grep,Nat.reduceSub];rfl) ?_
      refine w_grun ?_
      refine w_gcall [0] (ht) ?_
      refine w_grun ?_
      refine w_gcall [0] (hdp) ?_
      refine w_grun ?_
      refine w_gcall [0] (h1) ?_
      refine w_grun ?_
      refine w_gcall [0] (h2) ?_
      refine w_grun ?_
      refine w_gcall [0] (h2) ?_
      refine w_grun ?_
      refine w_gmk ?_
      refine w_grun ?_
      refine w_gcall [0] (hw) ?_
      refine w_grun ?_
      refine w_gcall [0] (hex) ?_
      refine w_grun ?_
      refine w_gmkv ?_
      refine w_grun ?_
      refine w_gmk ?_
      refine w_grun ?_
      refine w_gcall [0] (hw2) ?_
      refine w_grun ?_
      refine w_gcall [0] (hblk) ?_
      refine w_grun ?_
      refine w_gpush ?_
      refine w_grun ?_
      refine w_gcall [0] (hel) ?_
      refine w_grun ?_
      refine w_gcall [0] (hblk2) ?_
      refine w_grun ?_
      refine w_gpush ?_
      refine w_grun ?_
      refine GL.wk (Wk.snap (t:=108) rfl rfl rfl rfl) ?_
      refine w_gnmb ?_
      refine w_gcall [] (hnt) ?_
      refine w_grun ?_
      refine w_gret ?_
      exact ⟨rfl,rfl⟩
    | false=>exact htest true false (by simpa using hc2) hee (.inr rfl)
   ·exact htest false _ (by simpa using hc2) rfl (.inl rfl)
  | false =>
   have hbw':bw=true:=by simpa using hor
   subst hbw'
   rw [if_neg (fun hh=>by have:=hh.1;rw [hbi] at this;cases this),if_neg (by rw [hbi];decide)] at h
   cases h
   have hnt:=newTree_g 10 (tok p 0).at_ [] [c,b] [[qT c],[qT b]] (pTs_map _)
   generalize tok p 0=tk at *
   refine GC.enter Tryz.func187 Tryz.ntmps187 rfl (by simp only [gframe,grep,Nat.reduceSub];rfl) ?_
   refine w_grun ?_
   refine w_gcall [0] (ht) ?_
   refine w_grun ?_
   refine w_gcall [0] (hdp) ?_
   refine w_grun ?_
   refine w_gcall [0] (h1) ?_
   refine w_grun ?_
   refine w_gcall [0] (h2) ?_
   refine w_grun ?_
   refine w_gcall [0] (h3) ?_
   refine w_grun ?_
   refine w_gcall [0] (h2) ?_
   refine w_grun ?_
   refine w_gmk ?_
   refine w_grun ?_
   refine w_gcall [0] (hw) ?_
   refine w_grun ?_
   refine w_gcall [0] (hex) ?_
   refine w_grun ?_
   refine w_gmkv ?_
   refine w_grun ?_
   refine w_gmk ?_
   refine w_grun ?_
   refine w_gcall [0] (hw2) ?_
   refine w_grun ?_
   refine w_gcall [0] (hblk) ?_
   refine w_grun ?_
   refine w_gpush ?_
   refine w_grun ?_
   refine GL.wk (Wk.snap (t:=108) rfl rfl rfl rfl) ?_
   refine w_gnmb ?_
   refine w_gcall [] (hnt) ?_
   refine w_grun ?_
   refine w_gret ?_
   exact ⟨rfl,rfl⟩
 cases hs2:is p 0 kwIf with
 | true=>exact main true _ hs2 rfl (.inl rfl)
 | false =>
 cases hs3:is p 0 kwWhile with
 | true=>exact main false true hs2 hs3 (.inr rfl)
 | false =>
 clear main
 rw [hs2] at h2
 rw [hs3] at h3
 rw [if_neg (by rw [hs2,hs3];decide)] at h
 cases hs4:is p 0 kwReturn with
 | true =>
  rw [hs4] at h4
  rw [if_pos hs4] at h
  have hlt:p.i < p.l.length:=is_lt (k:=0) hs4
  have hpn:=(to_next hlt).ok hp
  cases he:iE f (.expr (d+1)) p.next with
  | none=>rw [he] at h;cases h
  | some r =>
   obtain ⟨e,q1⟩:=r
   rw [he] at h
   cases h
   have hq1:=((iE_to f).1 _ _ _ _ hpn he).ok hpn
   have hex:=E.expr (d+1) _ e q1 x hpn (by omega) he
   have hw2:=want_i q1 [59] x hq1
   have hnt:=newTree_g 11 (tok p 0).at_ [] [e] [[qT e]] (pTs_map _)
   generalize tok p 0=tk at *
   refine GC.enter Tryz.func187 Tryz.ntmps187 rfl (by simp only [gframe,grep,Nat.reduceSub];rfl) ?_
   refine w_grun ?_
   refine w_gcall [0] (ht) ?_
   refine w_grun ?_
   refine w_gcall [0] (hdp) ?_
   refine w_grun ?_
   refine w_gcall [0] (h1) ?_
   refine w_grun ?_
   refine w_gcall [0] (h2) ?_
   refine w_grun ?_
   refine w_gcall [0] (h3) ?_
   refine w_grun ?_
   refine w_gcall [0] (h4) ?_
   refine w_grun ?_
   refine w_gcall [0] (hex) ?_
   refine w_grun ?_
   refine w_gmk ?_
   refine w_grun ?_
   refine w_gcall [0] (hw2) ?_
   refine w_grun ?_
   refine w_gmk ?_
   refine w_grun ?_
   refine w_gcall [] (hnt) ?_
   refine w_grun ?_
   refine w_gret ?_
   exact ⟨rfl,rfl⟩
 | false =>
  rw [hs4] at h4
  rw [if_neg (by rw [hs4];decide)] at h
  have hsi:=simple_i (f:=f) d p t q x hp (by omega) h
  generalize tok p 0=tk at *
  refine GC.enter Tryz.func187 Tryz.ntmps187 rfl (by simp only [gframe,grep,Nat.reduceSub];rfl) ?_
  refine w_grun ?_
  refine w_gcall [0] (ht) ?_
  refine w_grun ?_
  refine w_gcall [0] (hdp) ?_
  refine w_grun ?_
  refine w_gcall [0] (h1) ?_
  refine w_grun ?_
  refine w_gcall [0] (h2) ?_
  refine w_grun ?_
  refine w_gcall [0] (h3) ?_
  refine w_grun ?_
  refine w_gcall [0] (h4) ?_
  refine w_grun ?_
  refine w_gcall [0] (hsi) ?_
  refine w_grun ?_
  refine w_gret ?_
  exact ⟨rfl,rfl⟩
theorem iss (f:Nat):Iss f:=by
 induction f using Nat.strongRecOn with
 | _ f ih =>
  cases f with
  | zero=>exact ⟨fun d p t q x _ _ h=>by simp [iS] at h,fun d p t q x _ _ h=>by simp [iS] at h⟩
  | succ f =>
   have C:=ih f (Nat.lt_succ_self f)
   have Cs:∀ f',f'≤f→Iss f':=fun f' h=>ih f' (Nat.lt_succ_of_le h)
   exact ⟨fun d p t q x hp hd h=>block_i Cs d p t q x hp hd h,fun d p t q x hp hd h=>stmt_i C d p t q x hp hd h⟩
end Go.Xg
namespace Go.Xg
open Go.RowKit Go.Xw Go.Proofs
open Go.Xp (Tok Nd T szT szL flT flL kidsAt)
attribute [local irreducible] GW GL GO YG GC GA gthn ginb
def rowN (n:Nd):List GV:=[.v (ii n.kind),.v (ii n.at_),.v (ii n.n),.v (sv n.s),ints n.kids]
def row0 (t:T) (x:Value):List GV:=[.v (ii t.n.kind),.v (ii t.n.at_),.v (ii t.n.n),.v (sv t.n.s),.v x]
theorem flatten_i:∀ (N:Nat) (t:T),szT t≤N→∀ (n:Nat) (rows:List (List GV)) (a:Option Addr) (c:Nat),rows.length=n→n+szT t≤1099511627776 →
  GC Tryz.prog 95 [.v (.slice a n c),qT t] [.vech 61 5 rows (.slice a n c)] fun g Γ'=>∃ a c,g=.v (.slice a (n+szT t) c)∧Γ'=[.vech 61 5 (rows++(flT n t).map rowN) (.slice a (n+szT t) c)]:=by
 intro N
 induction N with
 | zero=>intro t h;rw [Go.Xp.szT_eq] at h;omega
 | succ N ih =>
 intro t hN n rows a c hn hb
 subst hn
 rw [Go.Xp.szT_eq] at hb hN
 have hkl:=Go.Xp.len_le_szL t.kids
 refine GC.enter Tryz.func95 Tryz.ntmps95 rfl (by simp only [gframe,grep,Nat.reduceSub];rfl) ?_
 refine w_grun ?_
 refine GL.pushH 0 rfl rfl rfl rfl rfl rfl rfl rfl (by first | rfl | assumption) ⟨⟨by omega,by omega⟩,by decide⟩ ?_;intro a c;refine w_gnmb ?_
 refine w_grun ?_
 refine GW.wk (Wk.nilH 3 1) ?_
 refine GW.range (pTs t.kids).length (fun k fr Γ=>∃ a c a2 c2,fr=[.v (.slice a (rows.length+1+szL (t.kids.take k)) c),qT t,.any,.any,.any,.v (ii (rows.length:Nat)),.any,.any,.any,.any,.any,.any,.any,.any,.any,.any,.any,.any,.any,.any,.sl 1 (pTs t.kids),.v (ii ((pTs t.kids).length:Int)),.v (ii (k:Nat)),.any,.any,.any,.any,.any,.any,.any,.any,.any,.any,.any,.any,.any,.any,.any,.any,.any,.any,.any,.any,.any] ∧
  Γ=[.vech 61 5 (rows++row0 t (.slice a2 k c2)::(flL (rows.length+1) (t.kids.take k)).map rowN) (.slice a (rows.length+1+szL (t.kids.take k)) c),.vech 3 1 ((kidsAt (rows.length+1) (t.kids.take k)).map fun z=>[.v (ii z)]) (.slice a2 k c2)]) ?_ (by rw [pTs_len];omega) ?_ ?_ ?_
 ·refine ⟨_,_,Wk.frm w_wkf,a,c,none,0,rfl,?_⟩
  rfl
 ·rintro k _ _ ⟨a,c,a2,c2,rfl,rfl⟩;exact ⟨rfl,rfl,rfl⟩
 ·rintro k _ _ hlt ⟨a,c,a2,c2,rfl,rfl⟩
  rw [pTs_len] at hlt
  obtain ⟨kid,hkid⟩:∃ kid,t.kids[k]?=some kid:=⟨t.kids[k],by simp [hlt]⟩
  have hr:=row_pT hkid
  have hsz:=Go.Xp.szL_take_lt hkid
  have hle:=Go.Xp.szL_take_le t.kids (k+1)
  have htk:t.kids.take (k+1)=t.kids.take k++[kid]:=by rw [List.take_add_one,hkid];rfl
  have hX:((flL (rows.length+1) (t.kids.take k)).map rowN).length=szL (t.kids.take k):=by rw [List.length_map,Go.Xp.flL_len]
  have hks:((kidsAt (rows.length+1) (t.kids.take k)).map fun z=>[GV.v (ii z)]).length=k:=by rw [List.length_map,Go.Xp.kidsAt_len,List.length_take];omega
  rw [htk,Go.Xp.kidsAt_app,Go.Xp.flL_app,Go.Xp.szL_app]
  simp only [kidsAt,flL,szL,List.append_nil,Nat.add_zero,List.map_append,List.map_cons,List.map_nil,←Nat.add_assoc]
  have hih:=fun (rs:List (List GV)) a c h=>ih kid (by omega) (rows.length+1+szL (t.kids.take k)) rs a c h (by omega)
  generalize (flL (rows.length+1) (t.kids.take k)).map rowN=X at *
  generalize ((kidsAt (rows.length+1) (t.kids.take k)).map fun z=>[GV.v (ii z)])=ks at *
  generalize szL (t.kids.take k)=s at *
  subst hks
  have hl2:∀ r:List GV,(rows++r::X).length=rows.length+1+s:=fun r=>by simp;omega
  have hrow:(rows++row0 t (.slice a2 ks.length c2)::X)[rows.length]?=some (row0 t (.slice a2 ks.length c2)):=by simp
  have hl1:=hl2 (row0 t (.slice a2 ks.length c2))
  unfold row0 at hrow hl1 ⊢
  refine w_grun ?_
  refine GL.pushH 1 rfl rfl rfl rfl rfl rfl rfl rfl (by first | rfl | assumption) ⟨⟨by omega,by omega⟩,by decide⟩ ?_;intro a3 c3;refine w_gnmb ?_
  refine w_grun ?_
  refine w_gsth ?_
  rw [rset_mid]
  simp only [gupd]
  refine w_grun ?_
  refine w_gcallr [0] (hih _ _ _ (hl2 _)) ?_;rintro _ _ ⟨a4,c4,rfl,rfl⟩;refine w_gsim ?_
  refine w_grun ?_
  refine ⟨rfl,rfl,_,_,Wk.frm w_wkf,a4,c4,a3,c3,rfl,?_⟩
  rw [List.append_assoc];rfl
 ·rintro _ _ ⟨a,c,a2,c2,rfl,rfl⟩
  rw [pTs_len,List.take_length]
  rw [Go.Xp.szT_eq,Go.Xp.flT_eq]
  have hks:((kidsAt (rows.length+1) t.kids).map fun z=>[GV.v (ii z)]).length=t.kids.length:=by rw [List.length_map,Go.Xp.kidsAt_len]
  have hk2:ints (kidsAt (rows.length+1) t.kids)=.sl 1 ((kidsAt (rows.length+1) t.kids).map fun z=>[GV.v (ii z)]):=rfl
  rw [List.map_cons]
  simp only [rowN,row0]
  rw [hk2,show rows.length+(szL t.kids+1)=rows.length+1+szL t.kids by omega]
  generalize (flL (rows.length+1) t.kids).map rowN=X at *
  generalize ((kidsAt (rows.length+1) t.kids).map fun z=>[GV.v (ii z)])=ks at *
  generalize szL t.kids=s at *
  have hrow:∀ r:List GV,(rows++r::X)[rows.length]?=some r:=fun r=>by simp
  refine gthn_n ?_
  apply GW.wk
  ·apply Wk.sealR (i:=0) (idx:=rows.length) (o:=4) (j:=1)
   ·rfl
   ·exact hrow _
   ·rfl
   ·rfl
   ·rfl
  rw [rset_mid]
  simp only [gupd]
  refine w_grun ?_
  refine w_gret ?_
  exact ⟨_,_,rfl,rfl⟩
end Go.Xg
namespace Go.Xg
open Go.RowKit Go.Xw Go.Proofs
open Go.Xp (Tok Nd T signOf one levels kwVar kwIf kwElse kwWhile kwReturn kwInt kwFunc Job Ar)
open Go.Sp Go.Im
attribute [local irreducible] GW GL GO YG GC GA gthn ginb
structure HW where
 aT:Option Addr
 cT:Nat
 aG:Option Addr
 cG:Nat
 aA:Option Addr
 cA:Nat
 aF:Option Addr
 cF:Nat
def rowA (x:Ar):List GV:=[.v (sv x.name),.v (ii x.size)]
def rowF (x:Str × List Str):List GV:=[.v (sv x.1),strs x.2,.v (ii 0)]
def rowS (x:Str):List GV:=[.v (sv x)]
abbrev hx (st:PS) (h:HW):PX:=⟨.slice h.aT st.trees.length h.cT,.slice h.aG st.globals.length h.cG,.slice h.aA st.arrays.length h.cA,.slice h.aF st.fns.length h.cF,.slice none 0 0⟩
abbrev encW (p:RS) (st:PS) (h:HW):List Ob:=[encPR p (hx st h),.vech 62 1 (pTs st.trees) (.slice h.aT st.trees.length h.cT),.vech 9 1 (st.globals.map rowS) (.slice h.aG st.globals.length h.cG),.vech 87 2 (st.arrays.map rowA) (.slice h.aA st.arrays.length h.cA),.vech 89 3 (st.fns.map rowF) (.slice h.aF st.fns.length h.cF)]
theorem map_snoc {α β:Type} (g:α→β) (l:List α) (x:α):(l++[x]).map g=l.map g++[g x]:=by simp
theorem whole_int {f:Nat} (p:RS) (st:PS) (h:HW) (q:RS) (st':PS) (n:Nat) (hp:p.ok) (hn:st.le n) (hb:n+1≤1099511627776) (hs:is p 0 kwInt=true) (hw:iW f p st=some (q,st')) :
  GC Tryz.prog 94 [.loc 0 0] (encW p st h) (fun g Γ'=>g=.tup []∧∃ h',Γ'=encW q st' h'):=by
 obtain ⟨hpi,hpl⟩:=id hp
 obtain ⟨hn1,hn2,hn3,hn4⟩:=hn
 unfold iW at hw
 rw [if_pos hs] at hw
 have hi:=is_i p 0 kwInt (hx st h) hp (by decide)
 rw [hs] at hi
 have hp1:=(to_is hs).ok hp
 have hnm:=nameS_i p.next (hx st h) hp1
 have hp2:=(to_nameS hp1).ok hp1
 generalize (tok p.next 0).s=s at *
 generalize nameS p.next=p2 at *
 have hi2:=is_i p2 0 [91] (hx st h) hp2 (by decide)
 have hglob:¬ (p2.code=0∧is p2 0 [91]=true)→True:=fun _=>trivial
 cases hc:(p2.code==0) with
 | false =>
  have hc':¬ p2.code=0:=by simpa using hc
  rw [if_neg (fun hh=>hc' hh.1)] at hw
  cases hw
  have he1:(st.globals.map rowS).length+1=(st.globals++[s]).length:=by simp
  have he2:st.globals.map rowS++[[GV.v (sv s)]]=(st.globals++[s]).map rowS:=by simp [rowS]
  have hlen:(st.globals.map rowS).length+1≤1099511627776:=by simp;omega
  refine GC.enter Tryz.func94 Tryz.ntmps94 rfl (by simp only [gframe,grep,Nat.reduceSub];rfl) ?_
  refine w_grun ?_
  refine w_gcall [0] (hi) ?_
  refine w_grun ?_
  refine w_gcall [0] (hnm) ?_
  refine w_grun ?_
  refine GL.pushH 2 rfl rfl rfl rfl rfl rfl rfl rfl (by first | rfl | assumption) ⟨⟨by omega,by omega⟩,by decide⟩ ?_;intro a c;refine w_gnmb ?_
  rw [he1,he2]
  refine w_grun ?_
  refine w_gmk ?_
  refine w_grun ?_
  refine w_gcall [0] (want_i p2 [59] (hx { st with globals:=st.globals++[s] } { h with aG:=a,cG:=c }) hp2) ?_
  refine w_grun ?_
  refine w_gret0 ?_
  exact ⟨rfl,{ h with aG:=a,cG:=c },rfl⟩
 | true =>
  have hc':p2.code=0:=by simpa using hc
  cases hb2:is p2 0 [91] with
  | false =>
   rw [hb2] at hi2
   rw [if_neg (fun hh=>by have:=hh.2;rw [hb2] at this;cases this)] at hw
   cases hw
   have he1:(st.globals.map rowS).length+1=(st.globals++[s]).length:=by simp
   have he2:st.globals.map rowS++[[GV.v (sv s)]]=(st.globals++[s]).map rowS:=by simp [rowS]
   have hlen:(st.globals.map rowS).length+1≤1099511627776:=by simp;omega
   refine GC.enter Tryz.func94 Tryz.ntmps94 rfl (by simp only [gframe,grep,Nat.reduceSub];rfl) ?_
   refine w_grun ?_
   refine w_gcall [0] (hi) ?_
   refine w_grun ?_
   refine w_gcall [0] (hnm) ?_
   refine w_grun ?_
   refine w_gcall [0] (hi2) ?_
   refine w_grun ?_
   refine GL.pushH 2 rfl rfl rfl rfl rfl rfl rfl rfl (by first | rfl | assumption) ⟨⟨by omega,by omega⟩,by decide⟩ ?_;intro a c;refine w_gnmb ?_
   rw [he1,he2]
   refine w_grun ?_
   refine w_gmk ?_
   refine w_grun ?_
   refine w_gcall [0] (want_i p2 [59] (hx { st with globals:=st.globals++[s] } { h with aG:=a,cG:=c }) hp2) ?_
   refine w_grun ?_
   refine w_gret0 ?_
   exact ⟨rfl,{ h with aG:=a,cG:=c },rfl⟩
  | true =>
   rw [hb2] at hi2
   rw [if_pos ⟨hc',hb2⟩] at hw
   have hp3:=(to_is hb2).ok hp2
   have hp2i:=hp2.1
   have hp2l:=hp2.2
   have hp3i:=hp3.1
   have hp3l:=hp3.2
   have ht:=tok_g p2.next 0 (hx st h) hp3 (by decide)
   have hwr:=wrong_i p2.next (hx st h) hp3
   have hadv:(tok p2.next 0).kind=1→p2.next.next.ok:=fun hk=>(to_next (tok_lt (p:=p2.next) (k:=0) (by rw [hk];decide))).ok hp3
   generalize tok p2.next 0=tk at *
   by_cases hk:tk.kind=1
   ·rw [if_pos hk] at hw
    cases hw
    have hk':(tk.kind != 1)=false:=by simpa using hk
    have hp4:=hadv hk
    have hp4i:=hp4.1
    have hw1:=want_i p2.next.next [93] (hx st h) hp4
    have hp5:=(to_want hp4 [93]).ok hp4
    generalize want p2.next.next [93]=p5 at *
    have he1:(st.arrays.map rowA).length+1=(st.arrays++[(⟨s,tk.n⟩:Ar)]).length:=by simp
    have he2:st.arrays.map rowA++[[GV.v (sv s),.v (ii tk.n)]]=(st.arrays++[(⟨s,tk.n⟩:Ar)]).map rowA:=by simp [rowA]
    have hlen:(st.arrays.map rowA).length+1≤1099511627776:=by simp;omega
    refine GC.enter Tryz.func94 Tryz.ntmps94 rfl (by simp only [gframe,grep,Nat.reduceSub];rfl) ?_
    refine w_grun ?_
    refine w_gcall [0] (hi) ?_
    refine w_grun ?_
    refine w_gcall [0] (hnm) ?_
    refine w_grun ?_
    refine w_gcall [0] (hi2) ?_
    refine w_grun ?_
    refine w_gcall [0] (ht) ?_
    refine w_grun ?_
    refine w_gmk ?_
    refine w_grun ?_
    refine w_gcall [0] (hw1) ?_
    refine w_grun ?_
    refine GW.draw (.q 0 (.q 1 (.q 2 (.q 3 (.q 4 (.q 5 (.q 6 (.q 7 (.q 8 (.q 9 (.a 10 (.a 11 (.q 12 (.q 13 (.q 14 (.a 15 .nil)))))))))))))))) (by kernel_rfl) (by kernel_rfl) ?_
    refine w_gorun ?_
    refine w_gomk ?_
    refine w_gorun ?_
    refine OA rfl rfl (GL.appH 3 rfl rfl rfl (by first | rfl | assumption) rfl rfl (by refine ⟨?_,?_⟩;(· show _+1≤_;omega);(· show (_+1) * _≤_;omega)) ?_);intro a c;refine w_gaft ?_
    generalize hX:chunk 1 2 _=X
    obtain rfl:X=[rowA ⟨s,tk.n⟩]:=by rw [←hX];rfl
    clear hX
    try (generalize hX:chunk 1 2 _=X;obtain rfl:X=[rowA ⟨s,tk.n⟩]:=by rw [←hX];rfl)
    rw [show (st.arrays.map rowA).length+[rowA ⟨s,tk.n⟩].length=(st.arrays++[(⟨s,tk.n⟩:Ar)]).length by simp,←map_snoc rowA st.arrays ⟨s,tk.n⟩]
    refine w_gorun ?_
    refine w_grun ?_
    refine w_gmk ?_
    refine w_grun ?_
    refine w_gcall [0] (want_i p5 [59] (hx { st with arrays:=st.arrays++[⟨s,tk.n⟩] } { h with aA:=a,cA:=c }) hp5) ?_
    refine w_grun ?_
    refine w_gret0 ?_
    exact ⟨rfl,{ h with aA:=a,cA:=c },rfl⟩
   ·rw [if_neg hk] at hw
    cases hw
    have hk':(tk.kind != 1)=true:=by simpa using hk
    refine GC.enter Tryz.func94 Tryz.ntmps94 rfl (by simp only [gframe,grep,Nat.reduceSub];rfl) ?_
    refine w_grun ?_
    refine w_gcall [0] (hi) ?_
    refine w_grun ?_
    refine w_gcall [0] (hnm) ?_
    refine w_grun ?_
    refine w_gcall [0] (hi2) ?_
    refine w_grun ?_
    refine w_gcall [0] (ht) ?_
    refine w_grun ?_
    refine w_gcall [0] (hwr) ?_
    refine w_grun ?_
    refine w_gret0 ?_
    exact ⟨rfl,h,rfl⟩
end Go.Xg
namespace Go.Xg
open Go.RowKit Go.Xw Go.Proofs
open Go.Xp (Tok Nd T signOf one levels kwVar kwIf kwElse kwWhile kwReturn kwInt kwFunc Job Ar)
open Go.Sp Go.Im
attribute [local irreducible] GW GL GO YG GC GA gthn ginb
theorem whole_else {f:Nat} (p:RS) (st:PS) (h:HW) (q:RS) (st':PS) (hp:p.ok) (hs:is p 0 kwInt=false) (hs2:is p 0 kwFunc=false) (hw:iW f p st=some (q,st')) :
  GC Tryz.prog 94 [.loc 0 0] (encW p st h) (fun g Γ'=>g=.tup []∧∃ h',Γ'=encW q st' h'):=by
 unfold iW at hw
 rw [if_neg (by rw [hs];decide),if_neg (by rw [hs2];decide)] at hw
 cases hw
 have hi:=is_i p 0 kwInt (hx st h) hp (by decide)
 have hi2:=is_i p 0 kwFunc (hx st h) hp (by decide)
 have hwr:=wrong_i p (hx st h) hp
 rw [hs] at hi
 rw [hs2] at hi2
 refine GC.enter Tryz.func94 Tryz.ntmps94 rfl (by simp only [gframe,grep,Nat.reduceSub];rfl) ?_
 refine w_grun ?_
 refine w_gcall [0] (hi) ?_
 refine w_grun ?_
 refine w_gcall [0] (hi2) ?_
 refine w_grun ?_
 refine w_gcall [0] (hwr) ?_
 refine w_grun ?_
 refine w_gret0 ?_
 exact ⟨rfl,h,rfl⟩
abbrev encWF (p:RS) (st:PS) (h:HW) (s:Str) (acc:List Str) (a:Option Addr) (c:Nat):List Ob:=encW p st h++[.box 89 [.v (sv s),.v (.slice a acc.length c),.v (ii 0)],.vech 9 1 (acc.map rowS) (.slice a acc.length c)]
theorem whole_func {f:Nat} (p:RS) (st:PS) (h:HW) (q:RS) (st':PS) (n:Nat) (hp:p.ok) (hn:st.le n) (hb:n+f+4≤1099511627776) (hs0:is p 0 kwInt=false) (hs:is p 0 kwFunc=true) (hw:iW f p st=some (q,st')) :
  GC Tryz.prog 94 [.loc 0 0] (encW p st h) (fun g Γ'=>g=.tup []∧∃ h',Γ'=encW q st' h'):=by
 obtain ⟨hpi,hpl⟩:=id hp
 obtain ⟨hn1,hn2,hn3,hn4⟩:=hn
 unfold iW at hw
 rw [if_neg (by rw [hs0];decide),if_pos hs] at hw
 have hi0:=is_i p 0 kwInt (hx st h) hp (by decide)
 rw [hs0] at hi0
 have hi:=is_i p 0 kwFunc (hx st h) hp (by decide)
 rw [hs] at hi
 have hp1:=(to_is hs).ok hp
 have hnm:=nameS_i p.next (hx st h) hp1
 have hp2:=(to_nameS hp1).ok hp1
 generalize (tok p.next 0).s=s at *
 generalize nameS p.next=p2 at *
 have hw2:=want_i p2 [40] (hx st h) hp2
 have hp3:=(to_want hp2 [40]).ok hp2
 generalize want p2 [40]=p3 at *
 cases hm:iPm f [] p3 with
 | none=>rw [hm] at hw;cases hw
 | some r =>
 obtain ⟨l,q1⟩:=r
 rw [hm] at hw
 simp only at hw
 refine GC.enter Tryz.func94 Tryz.ntmps94 rfl (by simp only [gframe,grep,Nat.reduceSub];rfl) ?_
 refine w_grun ?_
 refine w_gcall [0] (hi0) ?_
 refine w_grun ?_
 refine w_gcall [0] (hi) ?_
 refine w_grun ?_
 refine w_gcall [0] (hnm) ?_
 refine w_grun ?_
 refine w_gmk ?_
 refine w_grun ?_
 refine w_gcall [0] (hw2) ?_
 refine w_grun ?_
 refine GW.wk (Wk.nilH 9 1) ?_
 refine GW.loop (fun z:Nat × List Str × RS=>z.1) (fun z fr Γ=>∃ a c,fr=[.loc 0 0,.any,.any,.any,.loc 5 0,.any,.any,.any,.any,.any,.any,.any,.any,.any,.any,.any,.any,.any,.any,.any,.any,.any,.any,.any,.any,.any,.any,.any,.any,.any,.any,.any,.any,.any,.any,.any,.any,.any,.any,.any,.any,.any,.any,.any,.any,.any,.any,.any,.any,.any,.any,.any,.any,.any,.any,.any,.any,.any,.any,.any,.any,.any,.any,.any,.any,.any,.any,.any,.any,.any,.any,.any,.any,.any,.any,.any,.any,.any,.any,.any,.any,.any,.any,.any,.any,.any,.any,.any,.any,.any,.any,.any,.any,.any,.any,.any,.any,.any,.any,.any,.any,.any,.any,.any,.any,.any,.any,.any,.any,.any,.any,.any,.any,.any,.any,.any,.any,.any,.any,.any,.any,.any,.any,.any,.any,.any,.any,.any,.any,.any,.any,.any,.any,.any,.any,.any,.any,.any,.any,.any,.any,.any,.any,.any,.any,.any,.any,.any,.any,.any,.any,.any,.any]∧Γ=encWF z.2.2 st h s z.2.1 a c∧z.2.2.ok∧z.2.1.length+z.1≤f∧iPm z.1 z.2.1 z.2.2=some (l,q1)) (f,[],p3) ?_ ?_
 ·exact ⟨_,_,Wk.frm w_wkf,none,0,rfl,rfl,hp3,by simp,hm⟩
 clear hm hp3 hw2 hp2 hnm hi hi0 hp1
 rintro ⟨g,acc,p⟩ _ _ ⟨a,c,rfl,rfl,hp,hng,hm⟩
 simp only at hp hng hm
 cases g with
 | zero=>cases hm
 | succ g =>
 rw [iPm] at hm
 have hi:=is_i p 0 [41] (hx st h) hp (by decide)
 by_cases hgo:p.code=0∧is p 0 [41]=false
 ·obtain ⟨hc,hs3⟩:=id hgo
  rw [if_pos hgo] at hm
  rw [hs3] at hi
  have hc':(p.code==0)=true:=by simpa using hc
  by_cases h0:acc.length=0
  ·obtain rfl:=List.eq_nil_of_length_eq_zero h0
   have hd:decide ((0:Int) < (([]:List Str).length:Int))=false:=by decide
   rw [if_pos (by rfl)] at hm
   have hnm:=nameS_i p (hx st h) hp
   have hp2:=(to_nameS hp).ok hp
   generalize (tok p 0).s=s2 at *
   refine w_grun ?_
   refine w_gcall [0] (hi) ?_
   refine w_grun ?_
   refine GW.draw (.q 0 (.q 1 (.q 2 (.a 3 (.a 4 (.a 5 (.q 6 (.a 7 .nil)))))))) (by kernel_rfl) (by kernel_rfl) ?_
   refine w_gorun ?_
   refine w_gocall [0] (hnm) ?_
   refine w_gorun ?_
   refine w_gomk ?_
   refine w_gorun ?_
   refine OA rfl rfl (GL.appH 6 (news:=[rowS s2]) rfl rfl rfl (by first | rfl | assumption) rfl rfl (by refine ⟨?_,?_⟩;(· show _+1≤_;omega);(· show (_+1) * _≤_;omega)) ?_);intro a2 c2;refine w_gaft ?_
   refine w_gorun ?_
   refine w_grun ?_
   exact ⟨(g,[s2],nameS p),⟨_,_,Wk.frm w_wkf,a2,c2,rfl,rfl,hp2,by simp at hng ⊢;omega,hm⟩,by simp⟩
  ·have hd:decide ((0:Int) < (acc.length:Int))=true:=by simpa using by omega
   rw [if_neg h0] at hm
   have hwc:=want_i p [44] (hx st h) hp
   have hpw:=(to_want hp [44]).ok hp
   generalize want p [44]=pw at *
   have hnm:=nameS_i pw (hx st h) hpw
   have hp2:=(to_nameS hpw).ok hpw
   generalize (tok pw 0).s=s2 at *
   have hlen:(acc.map rowS).length≤f:=by simp;omega
   refine w_grun ?_
   refine w_gcall [0] (hi) ?_
   refine w_grun ?_
   refine w_gmk ?_
   refine w_grun ?_
   refine w_gcall [0] (hwc) ?_
   refine w_grun ?_
   refine GW.draw (.q 0 (.q 1 (.q 2 (.a 3 (.a 4 (.a 5 (.q 6 (.a 7 .nil)))))))) (by kernel_rfl) (by kernel_rfl) ?_
   refine w_gorun ?_
   refine w_gocall [0] (hnm) ?_
   refine w_gorun ?_
   refine w_gomk ?_
   refine w_gorun ?_
   refine OA rfl rfl (GL.appH 6 (news:=[rowS s2]) rfl rfl rfl (by first | rfl | assumption) rfl rfl (by refine ⟨?_,?_⟩;(· show _+1≤_;omega);(· show (_+1) * _≤_;omega)) ?_);intro a2 c2;refine w_gaft ?_
   try rw [show (acc.map rowS).length+1=(acc++[s2]).length by simp]
   rw [show (acc.map rowS).length+[rowS s2].length=(acc++[s2]).length by simp,←map_snoc rowS acc s2]
   refine w_gorun ?_
   refine w_grun ?_
   exact ⟨(g,acc++[s2],nameS pw),⟨_,_,Wk.frm w_wkf,a2,c2,rfl,rfl,hp2,by simp;omega,hm⟩,by simp⟩
 ·rw [if_neg hgo] at hm
  obtain ⟨rfl,rfl⟩:acc=l∧want p [41]=q1:=by simpa using hm
  clear hm
  have hwq:=want_i p [41] (hx st h) hp
  have hpq:=(to_want hp [41]).ok hp
  have hl1:(pTs st.trees).length+1≤1099511627776:=by rw [pTs_len];omega
  have hl2:(st.fns.map rowF).length+1≤1099511627776:=by simp;omega
  by_cases hc:p.code=0
  ·have hc':(p.code==0)=true:=by simpa using hc
   have hs3:is p 0 [41]=true:=by
    cases h3:is p 0 [41] with
    | true=>rfl
    | false=>exact absurd ⟨hc,h3⟩ hgo
   rw [hs3] at hi
   by_cases hqc:(want p [41]).code=0
   ·have hqc':((want p [41]).code==0)=true:=by simpa using hqc
    rw [if_pos hqc] at hw
    cases hbk:iS f (.block 1) (want p [41]) with
    | none=>rw [hbk] at hw;cases hw
    | some r =>
    obtain ⟨t,qq⟩:=r
    rw [hbk] at hw
    obtain ⟨rfl,rfl⟩:qq=q∧_=st':=by simpa using hw
    have hblk:=(iss f).block 1 _ t qq (hx st h) hpq (by omega) hbk
    clear hbk hqc
    generalize want p [41]=pq at *
    refine w_grun ?_
    refine w_gcall [0] (hi) ?_
    refine w_grun ?_
    refine w_gexit ?_
    refine w_grun ?_
    refine w_gmk ?_
    refine w_grun ?_
    refine w_gcall [0] (hwq) ?_
    refine w_grun ?_
    refine GW.draw (.q 0 (.q 1 (.q 2 (.q 3 (.q 4 (.q 5 (.a 6 (.a 7 (.a 8 (.q 9 (.q 10 (.a 11 .nil)))))))))))) (by kernel_rfl) (by kernel_rfl) ?_
    refine w_gorun ?_
    refine w_gocall [0] (hblk) ?_
    refine w_gorun ?_
    refine w_gomk ?_
    refine w_gorun ?_
    refine OA rfl rfl (GL.appH 1 (news:=[[qT t]]) rfl rfl rfl (by first | rfl | assumption) rfl rfl (by refine ⟨?_,?_⟩;(· show _+1≤_;omega);(· show (_+1) * _≤_;omega)) ?_);intro a3 c3;refine w_gaft ?_
    try rw [show (pTs st.trees).length+1=(st.trees++[t]).length by simp [pTs_len]]
    rw [show (pTs st.trees).length+[[qT t]].length=(st.trees++[t]).length by simp [pTs_len],←pTs_app st.trees t]
    refine w_gorun ?_
    refine w_grun ?_
    apply GW.wk
    ·apply Wk.sealC (i:=5) (o:=1) (j:=6)
     ·rfl
     ·rfl
     ·rfl
     ·rfl
    simp only [oset,gupd]
    refine GW.draw (.q 0 (.q 1 (.q 2 (.q 3 (.q 4 (.q 5 (.q 6 (.a 7 (.a 8 (.q 9 (.q 10 (.q 11 (.a 12 .nil))))))))))))) (by kernel_rfl) (by kernel_rfl) ?_
    refine w_gorun ?_
    refine w_gomk ?_
    refine w_gorun ?_
    refine OA rfl rfl (GL.appH 4 (news:=[rowF (s,acc)]) rfl rfl rfl (by first | rfl | assumption) rfl rfl (by refine ⟨?_,?_⟩;(· show _+1≤_;omega);(· show (_+1) * _≤_;omega)) ?_);intro a4 c4;refine w_gaft ?_
    try rw [show (st.fns.map rowF).length+1=(st.fns++[(s,acc)]).length by simp]
    rw [show (st.fns.map rowF).length+[rowF (s,acc)].length=(st.fns++[(s,acc)]).length by simp,←map_snoc rowF st.fns (s,acc)]
    refine w_gorun ?_
    refine w_grun ?_
    refine w_gret0 ?_
    exact ⟨rfl,{ h with aT:=a3,cT:=c3,aF:=a4,cF:=c4 },rfl⟩
   ·have hqc':((want p [41]).code==0)=false:=by simpa using hqc
    rw [if_neg hqc] at hw
    cases hw
    clear hqc
    generalize want p [41]=pq at *
    refine w_grun ?_
    refine w_gcall [0] (hi) ?_
    refine w_grun ?_
    refine w_gexit ?_
    refine w_grun ?_
    refine w_gmk ?_
    refine w_grun ?_
    refine w_gcall [0] (hwq) ?_
    refine w_grun ?_
    refine w_gret0 ?_
    exact ⟨rfl,h,rfl⟩
  ·have hc':(p.code==0)=false:=by simpa using hc
   by_cases hqc:(want p [41]).code=0
   ·have hqc':((want p [41]).code==0)=true:=by simpa using hqc
    rw [if_pos hqc] at hw
    cases hbk:iS f (.block 1) (want p [41]) with
    | none=>rw [hbk] at hw;cases hw
    | some r =>
    obtain ⟨t,qq⟩:=r
    rw [hbk] at hw
    obtain ⟨rfl,rfl⟩:qq=q∧_=st':=by simpa using hw
    have hblk:=(iss f).block 1 _ t qq (hx st h) hpq (by omega) hbk
    clear hbk hqc
    generalize want p [41]=pq at *
    refine w_grun ?_
    refine w_gexit ?_
    refine w_grun ?_
    refine w_gmk ?_
    refine w_grun ?_
    refine w_gcall [0] (hwq) ?_
    refine w_grun ?_
    refine GW.draw (.q 0 (.q 1 (.q 2 (.q 3 (.q 4 (.q 5 (.a 6 (.a 7 (.a 8 (.q 9 (.q 10 (.a 11 .nil)))))))))))) (by kernel_rfl) (by kernel_rfl) ?_
    refine w_gorun ?_
    refine w_gocall [0] (hblk) ?_
    refine w_gorun ?_
    refine w_gomk ?_
    refine w_gorun ?_
    refine OA rfl rfl (GL.appH 1 (news:=[[qT t]]) rfl rfl rfl (by first | rfl | assumption) rfl rfl (by refine ⟨?_,?_⟩;(· show _+1≤_;omega);(· show (_+1) * _≤_;omega)) ?_);intro a3 c3;refine w_gaft ?_
    try rw [show (pTs st.trees).length+1=(st.trees++[t]).length by simp [pTs_len]]
    rw [show (pTs st.trees).length+[[qT t]].length=(st.trees++[t]).length by simp [pTs_len],←pTs_app st.trees t]
    refine w_gorun ?_
    refine w_grun ?_
    apply GW.wk
    ·apply Wk.sealC (i:=5) (o:=1) (j:=6)
     ·rfl
     ·rfl
     ·rfl
     ·rfl
    simp only [oset,gupd]
    refine GW.draw (.q 0 (.q 1 (.q 2 (.q 3 (.q 4 (.q 5 (.q 6 (.a 7 (.a 8 (.q 9 (.q 10 (.q 11 (.a 12 .nil))))))))))))) (by kernel_rfl) (by kernel_rfl) ?_
    refine w_gorun ?_
    refine w_gomk ?_
    refine w_gorun ?_
    refine OA rfl rfl (GL.appH 4 (news:=[rowF (s,acc)]) rfl rfl rfl (by first | rfl | assumption) rfl rfl (by refine ⟨?_,?_⟩;(· show _+1≤_;omega);(· show (_+1) * _≤_;omega)) ?_);intro a4 c4;refine w_gaft ?_
    try rw [show (st.fns.map rowF).length+1=(st.fns++[(s,acc)]).length by simp]
    rw [show (st.fns.map rowF).length+[rowF (s,acc)].length=(st.fns++[(s,acc)]).length by simp,←map_snoc rowF st.fns (s,acc)]
    refine w_gorun ?_
    refine w_grun ?_
    refine w_gret0 ?_
    exact ⟨rfl,{ h with aT:=a3,cT:=c3,aF:=a4,cF:=c4 },rfl⟩
   ·have hqc':((want p [41]).code==0)=false:=by simpa using hqc
    rw [if_neg hqc] at hw
    cases hw
    clear hqc
    generalize want p [41]=pq at *
    refine w_grun ?_
    refine w_gexit ?_
    refine w_grun ?_
    refine w_gmk ?_
    refine w_grun ?_
    refine w_gcall [0] (hwq) ?_
    refine w_grun ?_
    refine w_gret0 ?_
    exact ⟨rfl,h,rfl⟩
end Go.Xg
namespace Go.Xg
open Go.RowKit Go.Xw Go.Proofs
open Go.Xp (Tok Nd T signOf one levels kwVar kwIf kwElse kwWhile kwReturn kwInt kwFunc Job Ar szL szT flL flT)
open Go.Sp Go.Im
attribute [local irreducible] GW GL GO YG GC GA gthn ginb
theorem whole_i {f:Nat} (p:RS) (st:PS) (h:HW) (q:RS) (st':PS) (n:Nat) (hp:p.ok) (hn:st.le n) (hb:n+f+4≤1099511627776) (hw:iW f p st=some (q,st')) :
  GC Tryz.prog 94 [.loc 0 0] (encW p st h) (fun g Γ'=>g=.tup []∧∃ h',Γ'=encW q st' h'):=by
 cases h1:is p 0 kwInt with
 | true=>exact whole_int p st h q st' n hp hn (by omega) h1 hw
 | false =>
  cases h2:is p 0 kwFunc with
  | true=>exact whole_func p st h q st' n hp hn hb h1 h2 hw
  | false=>exact whole_else p st h q st' hp h1 h2 hw
def rowsB (fns:List (Str × List Str)) (trees:List T) (k:Nat):List (List GV):=fns.mapIdx fun i x=>[.v (sv x.1),strs x.2,.v (ii (if i < k then ((szL (trees.take i):Nat):Int) else 0))]
theorem rset_get:∀ (rows:List (List GV)) (i j o:Nat) (g:GV),(rset rows i o g)[j]?=if j=i then (rows[j]?).map (fun r=>gupd r o g) else rows[j]?
 | [],i,j,o,g=>by simp [rset]
 | r::rs,0,0,o,g=>by simp [rset]
 | r::rs,0,j+1,o,g=>by simp [rset]
 | r::rs,i+1,0,o,g=>by simp [rset]
 | r::rs,i+1,j+1,o,g=>by
  rw [rset,List.getElem?_cons_succ,rset_get rs i j o g];simp
theorem rowsB_0 (fns:List (Str × List Str)) (trees:List T):fns.map rowF=rowsB fns trees 0:=by
 apply List.ext_getElem?
 intro i
 rw [rowsB,List.getElem?_mapIdx,List.getElem?_map]
 cases fns[i]? <;> simp [rowF]
theorem rowsB_set (fns:List (Str × List Str)) (trees:List T) (k:Nat):rset (rowsB fns trees k) k 2 (.v (ii ((szL (trees.take k):Nat):Int)))=rowsB fns trees (k+1):=by
 apply List.ext_getElem?
 intro i
 rw [rset_get,rowsB,rowsB,List.getElem?_mapIdx,List.getElem?_mapIdx]
 by_cases h:i=k
 ·subst h
  rw [if_pos rfl]
  cases fns[i]? with
  | none=>rfl
  | some x=>simp [gupd]
 ·rw [if_neg h]
  cases fns[i]? with
  | none=>rfl
  | some x =>
   have:(i < k)=(i < k+1):=by simp;omega
   simp [this]
theorem rowsB_at {fns:List (Str × List Str)} {trees:List T} {k:Nat} (j:Nat) (h:k < fns.length):∃ x,(rowsB fns trees j)[k]?=some [.v (sv x.1),strs x.2,.v (ii (if k < j then ((szL (trees.take k):Nat):Int) else 0))]∧fns[k]?=some x:=by
 refine ⟨fns[k],?_,by simp [h]⟩
 rw [rowsB,List.getElem?_mapIdx];simp [h]
def ptG (q:RS) (st:PS):GV :=
 if q.code=0 then
  if szL st.trees > 800 then .tup [.agg [.sl 1 [],.sl 2 [],.sl 3 [],.sl 5 []],.v (ii 10),.v (ii 0)]
  else .tup [.agg [.sl 1 (st.globals.map rowS),.sl 2 (st.arrays.map rowA),.sl 3 (rowsB st.fns st.trees st.trees.length),.sl 5 ((flL 0 st.trees).map rowN)],.v (ii 0),.v (ii 0)]
 else .tup [.agg [.sl 1 [],.sl 2 [],.sl 3 [],.sl 5 []],.v (ii q.code),.v (ii q.at_)]
theorem parseToks_i {G f:Nat} (ts:List Tok) (e:Int) (q:RS) (st:PS) (hl:ts.length≤1099511627776) (hb:G+f+4≤1099511627776) (hz:q.code=0→szL st.trees≤1099511627776) (h:iPs G f ⟨ts,0,e,0,0⟩ .empty=some (q,st)) :
  GF Tryz.prog 43 [toks ts,.v (ii e)] [] (ptG q st) []:=by
 unfold ptG
 refine GC.enter Tryz.func43 Tryz.ntmps43 rfl (by simp only [gframe,grep,Nat.reduceSub];rfl) ?_
 refine w_grun ?_
 refine GW.wk (Wk.nilH 62 1) ?_
 refine GW.wk (Wk.nilH 9 1) ?_
 refine GW.wk (Wk.nilH 87 2) ?_
 refine GW.wk (Wk.nilH 89 3) ?_
 refine GW.loop (fun z:Nat × RS × PS=>z.1) (fun z fr Γ=>∃ h n,fr=[toks ts,.v (ii e),.any,.any,.loc 0 0,.v (ii 0),.v (ii 0),.loc 1 0,.any,.any,.any,.any,.any,.any,.any,.any,.any,.any,.any,.any,.any,.any,.any,.any,.any,.any,.any,.any,.any,.any,.any,.any,.any,.any,.any,.any,.any,.any,.any,.any,.any,.any,.any,.any,.any,.any,.any,.any,.any,.any,.any,.any,.any,.any,.any,.any,.any,.any,.any,.any,.any,.any,.any,.any,.any,.any,.any,.any,.any,.any,.any,.any,.any,.any,.any,.any,.any,.any,.any]∧Γ=.box 28 [.v (.slice none 0 0),.v (.slice none 0 0),.v (.slice none 0 0),.v (.slice none 0 0)]::encW z.2.1 z.2.2 h∧z.2.1.l=ts∧z.2.1.ok∧z.2.2.le n∧n+z.1≤G∧iPs z.1 f z.2.1 z.2.2=some (q,st)) (G,⟨ts,0,e,0,0⟩,.empty) ?_ ?_
 ·exact ⟨_,_,Wk.frm w_wkf,⟨none,0,none,0,none,0,none,0⟩,0,rfl,rfl,rfl,⟨Nat.zero_le _,hl⟩,⟨Nat.le_refl _,Nat.le_refl _,Nat.le_refl _,rfl⟩,by simp,h⟩
 clear h
 rintro ⟨g,p,s⟩ _ _ ⟨hd,n,rfl,rfl,hpl,hp,hn,hng,h⟩
 simp only at hpl hp hn hng h
 cases g with
 | zero=>cases h
 | succ g =>
 rw [iPs] at h
 by_cases hgo:p.code=0∧p.i < p.l.length
 ·rw [if_pos hgo] at h
  have hc':(p.code==0)=true:=by simpa using hgo.1
  have hlt:decide ((p.i:Int) < ((ts.map encTok).length:Int))=true:=by
   have:=hgo.2;rw [hpl] at this;simpa using this
  cases hw:iW f p s with
  | none=>rw [hw] at h;cases h
  | some r =>
   obtain ⟨p2,s2⟩:=r
   rw [hw] at h
   simp only at h
   have hto:=iW_to hp hw
   refine w_grun ?_
   refine w_gcallr [1,2,3,4,5] (whole_i p s hd p2 s2 n hp hn (by omega) hw) ?_;rintro _ _ ⟨rfl,hd2,rfl⟩;refine w_gsim ?_
   refine w_grun ?_
   exact ⟨(g,p2,s2),⟨_,_,Wk.frm w_wkf,hd2,n+1,rfl,rfl,by rw [hto.1,hpl],hto.ok hp,iW_le hw hn,by show n+1+g≤G;omega,h⟩,by simp⟩
 ·rw [if_neg hgo] at h
  obtain ⟨rfl,rfl⟩:p=q∧s=st:=by simpa using h
  clear h
  have hex:∀ b1 b2:Bool,(p.code==0)=b1→decide ((p.i:Int) < ((ts.map encTok).length:Int))=b2→b1=true→b2=false:=fun b1 b2 h1 h2 h3=>by
   subst h3
   cases b2 with
   | false=>rfl
   | true=>exact absurd ⟨by simpa using h1,by rw [hpl];simpa using h2⟩ hgo
  by_cases hc:p.code=0
  ·rw [if_pos hc]
   have hz:=hz hc
   have hc':(p.code==0)=true:=by simpa using hc
   have hc2:(p.code != 0)=false:=by simpa using hc
   have hlt:=hex _ _ hc' rfl rfl
   have hlt2:=hn.trees
   have hlf:=hn.fns
   have hpt:=pTs_len s.trees
   have hll:=Go.Xp.len_le_szL s.trees
   refine w_grun ?_
   refine w_gexit ?_
   refine w_grun ?_
   refine GW.wk (by apply Wk.sealH (t:=52) (i:=2) <;> rfl) ?_
   simp only [oset,gupd]
   refine w_grun ?_
   refine GW.wk (Wk.nilH 61 5) ?_
   rw [rowsB_0 s.fns s.trees]
   refine GW.range s.trees.length (fun k fr Γ=>∃ aN cN,fr=[.any,.any,.any,.any,.loc 0 0,.v (ii 0),.v (ii 0),.any,.loc 6 0,.any,.any,.any,.any,.any,.any,.any,.any,.any,.any,.any,.any,.any,.any,.any,.any,.any,.any,.any,.any,.any,.any,.any,.any,.any,.any,.any,.any,.any,.any,.any,.any,.any,.any,.any,.any,.any,.any,.any,.any,.any,.any,.any,.sl 1 (pTs s.trees),.v (ii (s.trees.length:Int)),.v (ii (k:Nat)),.any,.any,.any,.any,.any,.any,.any,.any,.any,.any,.any,.any,.any,.any,.any,.any,.any,.any,.any,.any,.any,.any,.any,.any]∧Γ=[.box 28 [.v (.slice none 0 0),.v (.slice none 0 0),.v (.slice none 0 0),.v (.slice none 0 0)],encPR p (hx s hd),.vec 62 1 (pTs s.trees).length (pTs s.trees),.vech 9 1 (s.globals.map rowS) (.slice hd.aG s.globals.length hd.cG),.vech 87 2 (s.arrays.map rowA) (.slice hd.aA s.arrays.length hd.cA),.vech 89 3 (rowsB s.fns s.trees k) (.slice hd.aF s.fns.length hd.cF),
    .box 28 [.v (.slice hd.aG s.globals.length hd.cG),.v (.slice hd.aA s.arrays.length hd.cA),.v (.slice hd.aF s.fns.length hd.cF),.v (.slice aN (szL (s.trees.take k)) cN)],.vech 61 5 ((flL 0 (s.trees.take k)).map rowN) (.slice aN (szL (s.trees.take k)) cN)]) ?_ (by omega) ?_ ?_ ?_
   ·exact ⟨_,_,Wk.frm w_wkf,none,0,rfl,rfl⟩
   ·rintro k _ _ ⟨aN,cN,rfl,rfl⟩;exact ⟨rfl,rfl,rfl⟩
   ·rintro k _ _ hlt ⟨aN,cN,rfl,rfl⟩
    obtain ⟨t,ht⟩:∃ t,s.trees[k]?=some t:=⟨s.trees[k],by simp [hlt]⟩
    have hr:=row_pT ht
    have hsz:=Go.Xp.szL_take_lt ht
    have hle:=Go.Xp.szL_take_le s.trees (k+1)
    have htk:s.trees.take (k+1)=s.trees.take k++[t]:=by rw [List.take_add_one,ht];rfl
    obtain ⟨x,hx1,hx2⟩:=rowsB_at (fns:=s.fns) (trees:=s.trees) (k:=k) k (by omega)
    rw [if_neg (Nat.lt_irrefl k)] at hx1
    have hrl:k < (rowsB s.fns s.trees k).length:=(List.getElem?_eq_some_iff.1 hx1).1
    have hX:((flL 0 (s.trees.take k)).map rowN).length=szL (s.trees.take k):=by rw [List.length_map,Go.Xp.flL_len]
    have hfl:=flatten_i (szT t) t (Nat.le_refl _) (szL (s.trees.take k)) _ aN cN hX (by omega)
    rw [←rowsB_set s.fns s.trees k,htk,Go.Xp.flL_app,Go.Xp.szL_app]
    simp only [flL,szL,List.append_nil,Nat.add_zero,Nat.zero_add,List.map_append]
    generalize (flL 0 (s.trees.take k)).map rowN=X at *
    generalize szL (s.trees.take k)=z at *
    generalize rowsB s.fns s.trees k=R at *
    refine w_grun ?_
    refine w_gsth ?_
    refine w_grun ?_
    refine w_gcallr [7] (hfl) ?_;rintro _ _ ⟨a5,c5,rfl,rfl⟩;refine w_gsim ?_
    refine w_grun ?_
    exact ⟨rfl,rfl,_,_,Wk.frm w_wkf,a5,c5,rfl,rfl⟩
   ·rintro _ _ ⟨aN,cN,rfl,rfl⟩
    rw [List.take_length]
    have hX:((flL 0 s.trees).map rowN).length=szL s.trees:=by rw [List.length_map,Go.Xp.flL_len]
    by_cases h8:szL s.trees > 800
    ·rw [if_pos h8]
     have h8':decide ((800:Int) < (szL s.trees:Int))=true:=by simpa using by omega
     generalize szL s.trees=z at *
     refine w_grun ?_
     refine w_gretcttl ?_
     exact ⟨_,w_gle,rfl,rfl⟩
    ·rw [if_neg h8]
     have h8':decide ((800:Int) < (((flL 0 s.trees).map rowN).length:Int))=false:=by rw [hX];simpa using by omega
     refine gthn_n ?_
     refine GW.wk (by apply Wk.sealC (i:=6) (o:=0) (j:=3) <;> rfl) ?_
     simp only [oset,gupd]
     refine GW.wk (by apply Wk.sealC (i:=6) (o:=1) (j:=4) <;> rfl) ?_
     simp only [oset,gupd]
     refine GW.wk (by apply Wk.sealC (i:=6) (o:=2) (j:=5) <;> rfl) ?_
     simp only [oset,gupd]
     refine GW.wk (by apply Wk.sealC (i:=6) (o:=3) (j:=7) <;> rfl) ?_
     simp only [oset,gupd]
     refine w_grun ?_
     refine w_gretctt ?_
     exact ⟨rfl,rfl⟩
  ·rw [if_neg hc]
   have hc':(p.code==0)=false:=by simpa using hc
   have hc2:(p.code != 0)=true:=by simpa using hc
   refine w_grun ?_
   refine w_gexit ?_
   refine w_grun ?_
   refine GW.draw (.q 0 (.q 1 (.q 2 (.q 3 (.q 4 (.q 5 (.q 6 (.q 7 (.q 8 (.a 9 (.q 10 (.q 11 .nil)))))))))))) (by kernel_rfl) (by kernel_rfl) ?_
   refine w_gorun ?_
   refine w_grun ?_
   refine w_gretcttl ?_
   exact ⟨_,w_gle,rfl,rfl⟩
end Go.Xg
namespace Go.Xg
open Go.RowKit Go.Xw Go.Proofs
open Go.Xp (Tok Nd T)
open Go.Sp (small dig namb begins wordAt wordEnd isBlank)
open Go.Im (signsI isSg cutS signTry signI digEnd numI tok0 tokI lexI idxI)
attribute [local irreducible] GW GL GO YG GC GA gthn ginb
theorem digit_i (c:UInt8):GF Tryz.prog 166 [by_ c] [] (.v (.bool (dig c))) []:=by
 unfold dig
 refine GC.enter Tryz.func166 Tryz.ntmps166 rfl (by simp only [gframe,grep,Nat.reduceSub];rfl) ?_
 cases h:decide ((48:Int)≤(c.toNat:Int))
 all_goals
  refine w_grun ?_
  refine w_gret ?_
  exact ⟨rfl,rfl⟩
theorem letter_i (c:UInt8):GF Tryz.prog 168 [by_ c] [] (.v (.bool (small c))) []:=by
 unfold small
 refine GC.enter Tryz.func168 Tryz.ntmps168 rfl (by simp only [gframe,grep,Nat.reduceSub];rfl) ?_
 cases h:decide ((97:Int)≤(c.toNat:Int))
 all_goals
  refine w_grun ?_
  refine w_gret ?_
  exact ⟨rfl,rfl⟩
theorem nameByte_i (c:UInt8):GF Tryz.prog 169 [by_ c] [] (.v (.bool (namb c))) []:=by
 unfold namb
 have hs:=letter_i c
 have hd:=digit_i c
 generalize small c=b1 at *
 generalize dig c=b2 at *
 refine GC.enter Tryz.func169 Tryz.ntmps169 rfl (by simp only [gframe,grep,Nat.reduceSub];rfl) ?_
 refine w_grun ?_
 refine w_gcall [] (hs) ?_
 cases b1 with
 | true =>
  refine w_grun ?_
  refine w_gret ?_
  exact ⟨rfl,rfl⟩
 | false =>
  cases h1:decide ((65:Int)≤(c.toNat:Int)) with
  | true =>
   cases h2:decide ((c.toNat:Int)≤90) with
   | true =>
    refine w_grun ?_
    refine w_gret ?_
    exact ⟨rfl,rfl⟩
   | false =>
    refine w_grun ?_
    refine w_gcall [] (hd) ?_
    cases b2 with
    | true =>
     refine w_grun ?_
     refine w_gret ?_
     exact ⟨rfl,rfl⟩
    | false =>
     refine w_grun ?_
     refine w_gret ?_
     exact ⟨rfl,rfl⟩
  | false =>
   refine w_grun ?_
   refine w_gcall [] (hd) ?_
   cases b2 with
   | true =>
    refine w_grun ?_
    refine w_gret ?_
    exact ⟨rfl,rfl⟩
   | false =>
    refine w_grun ?_
    refine w_gret ?_
    exact ⟨rfl,rfl⟩
theorem run_i (test:FuncId) [hf:Fun Tryz.prog test] (p:UInt8→Bool) (ht:∀ c,GF Tryz.prog test [by_ c] [] (.v (.bool (p c))) []) (s:Str) (a:Nat) (hs:s.length≤1099511627776) (ha:a≤s.length) :
  GF Tryz.prog 167 [.v (sv s),.v (ii (a:Nat)),.v (.func (.func test) #[] #[])] [] (.v (ii (Go.Sp.run s p (s.length+1) a:Nat))) []:=by
 generalize hR:Go.Sp.run s p (s.length+1) a=R
 refine GC.enter Tryz.func167 Tryz.ntmps167 rfl (by simp only [gframe,grep,Nat.reduceSub];rfl) ?_
 refine w_grun ?_
 refine GW.loop (fun x:Nat × Nat=>x.1) (fun x fr Γ=>fr=[.v (sv s),.v (ii (x.2:Nat)),.v (.func (.func test) #[] #[]),.any,.any,.any,.any,.any,.any,.any,.any,.any,.any,.any,.any,.any,.any,.any,.any,.any,.any]∧Γ=[]∧x.2≤s.length∧s.length < x.1+x.2∧Go.Sp.run s p x.1 x.2=R) (s.length+1,a) ?_ ?_
 ·exact ⟨_,_,Wk.frm w_wkf,rfl,rfl,ha,by simp only;omega,hR⟩
 ·rintro ⟨f,a⟩ _ _ ⟨rfl,rfl,ha,hf2,h⟩
  simp only at ha hf2 h
  cases f with
  | zero=>omega
  | succ f =>
  rw [Go.Sp.run] at h
  cases hc:s[a]? with
  | none =>
   rw [hc] at h
   simp only at h
   subst h
   have hge:s.length≤a:=List.getElem?_eq_none_iff.1 hc
   have hd:decide ((a:Int) < (s.length:Int))=false:=by simpa using hge
   refine w_grun ?_
   refine w_gexit ?_
   refine w_grun ?_
   refine w_gret ?_
   exact ⟨rfl,rfl⟩
  | some c =>
   rw [hc] at h
   simp only at h
   have hlt:a < s.length:=(List.getElem?_eq_some_iff.1 hc).1
   have hd:decide ((a:Int) < (s.length:Int))=true:=by simpa using hlt
   have hdg:=ht c
   cases hdc:p c with
   | false =>
    rw [hdc] at hdg
    rw [if_neg (by rw [hdc];simp)] at h
    subst h
    refine w_grun ?_
    refine w_gcallp [] (hdg) ?_
    refine w_grun ?_
    refine w_gexit ?_
    refine w_grun ?_
    refine w_gret ?_
    exact ⟨rfl,rfl⟩
   | true =>
    rw [hdc] at hdg
    rw [if_pos hdc] at h
    refine w_grun ?_
    refine w_gcallp [] (hdg) ?_
    refine w_grun ?_
    exact ⟨(f,a+1),⟨_,_,Wk.frm w_wkf,rfl,rfl,hlt,by simp only;omega,h⟩,by simp⟩
theorem spaceT_eq:Go.Lib.asciiSpaceTab=spaceT:=by decide
theorem fields_eq:Go.Lib.fields [105,110,116,32,118,97,114,32,102,117,110,99,32,105,102,32,101,108,115,101,32,119,104,105,108,101,32,114,101,116,117,114,110,32,124,124,32,38,38,32,61,61,32,33,61,32,60,61,32,62,61,32,60,60,32,62,62,32,40,32,41,32,123,32,125,32,91,32,93,32,44,32,59,32,61,32,60,32,62,32,43,32,45,32,42,32,47,32,37,32,38,32,124,32,94,32,33,32,126]=signsI:=by decide +kernel
end Go.Xg
namespace Go.Xg
open Go.RowKit Go.Xw Go.Proofs
open Go.Xp (Tok Nd T)
open Go.Sp (small dig namb begins wordAt wordEnd isBlank)
open Go.Im (signsI isSg cutS signTry signI digEnd numI tok0 tokI lexI idxI)
attribute [local irreducible] GW GL GO YG GC GA gthn ginb
theorem Ret.of_calls {P:Program} {f:FuncId} {vs:List Value} {w:World} {R:Value→World→Prop} (h:Calls P f vs.toArray w fun e w'=>∃ v,e=.returned v∧R v w'):Ret P f vs w R:=h
theorem Fields_g:GF Tryz.prog 221 [.v (sv [105,110,116,32,118,97,114,32,102,117,110,99,32,105,102,32,101,108,115,101,32,119,104,105,108,101,32,114,101,116,117,114,110,32,124,124,32,38,38,32,61,61,32,33,61,32,60,61,32,62,61,32,60,60,32,62,62,32,40,32,41,32,123,32,125,32,91,32,93,32,44,32,59,32,61,32,60,32,62,32,43,32,45,32,42,32,47,32,37,32,38,32,124,32,94,32,33,32,126])] [] (strs signsI) []:=by
 have:=GF.libN (P:=Tryz.prog) (f:=221) (vs:=[sv [105,110,116,32,118,97,114,32,102,117,110,99,32,105,102,32,101,108,115,101,32,119,104,105,108,101,32,114,101,116,117,114,110,32,124,124,32,38,38,32,61,61,32,33,61,32,60,61,32,62,61,32,60,60,32,62,62,32,40,32,41,32,123,32,125,32,91,32,93,32,44,32,59,32,61,32,60,32,62,32,43,32,45,32,42,32,47,32,37,32,38,32,124,32,94,32,33,32,126]]) (us:=signsI.map sv) (E:=9) fun K β w ht hf=>?_
 ·rw [List.map_map] at this;exact this
 ·obtain ⟨E,z,hcell⟩:=TabB.all ht hf ht.spc (zs:=spaceT.map fun z=>Value.int .u8 z) (by decide) (fun m o x hx=>by
   rw [List.getElem?_map] at hx
   unfold KTab
   rw [if_neg (by decide),if_neg (by decide),if_pos rfl]
   cases hs:spaceT[o]? with
   | none=>rw [hs] at hx;cases hx
   | some y=>rw [hs] at hx;cases hx;rfl)
  have htab:Go.Lib.TabIs Tryz.prog w "strings.asciiSpace" .u8 Go.Lib.asciiSpaceTab:=by
   unfold Go.Lib.TabIs World.var?
   rw [show Tryz.prog.globalNamed "strings.asciiSpace" = some 2 by kernel_rfl,spaceT_eq]
   simp only [Option.bind_some,hcell]
  have h:=Tryz.strings_Fields_laid ⟨[105,110,116,32,118,97,114,32,102,117,110,99,32,105,102,32,101,108,115,101,32,119,104,105,108,101,32,114,101,116,117,114,110,32,124,124,32,38,38,32,61,61,32,33,61,32,60,61,32,62,61,32,60,60,32,62,62,32,40,32,41,32,123,32,125,32,91,32,93,32,44,32,59,32,61,32,60,32,62,32,43,32,45,32,42,32,47,32,37,32,38,32,124,32,94,32,33,32,126].toArray⟩ w (by decide) (fun j b hb=>by
   have:∀ b∈([105,110,116,32,118,97,114,32,102,117,110,99,32,105,102,32,101,108,115,101,32,119,104,105,108,101,32,114,101,116,117,114,110,32,124,124,32,38,38,32,61,61,32,33,61,32,60,61,32,62,61,32,60,60,32,62,62,32,40,32,41,32,123,32,125,32,91,32,93,32,44,32,59,32,61,32,60,32,62,32,43,32,45,32,42,32,47,32,37,32,38,32,124,32,94,32,33,32,126]:List UInt8),b.toNat < 128:=by decide
   exact this b (List.mem_of_getElem? hb)) htab
  refine Ret.of_calls (Calls.mono h ?_)
  rintro e w' ⟨h1,h2⟩
  rw [show ((⟨[105,110,116,32,118,97,114,32,102,117,110,99,32,105,102,32,101,108,115,101,32,119,104,105,108,101,32,114,101,116,117,114,110,32,124,124,32,38,38,32,61,61,32,33,61,32,60,61,32,62,61,32,60,60,32,62,62,32,40,32,41,32,123,32,125,32,91,32,93,32,44,32,59,32,61,32,60,32,62,32,43,32,45,32,42,32,47,32,37,32,38,32,124,32,94,32,33,32,126].toArray⟩:ByteArray).data.toList)=[105,110,116,32,118,97,114,32,102,117,110,99,32,105,102,32,101,108,115,101,32,119,104,105,108,101,32,114,101,116,117,114,110,32,124,124,32,38,38,32,61,61,32,33,61,32,60,61,32,62,61,32,60,60,32,62,62,32,40,32,41,32,123,32,125,32,91,32,93,32,44,32,59,32,61,32,60,32,62,32,43,32,45,32,42,32,47,32,37,32,38,32,124,32,94,32,33,32,126] from rfl,fields_eq] at h1 h2
  exact ⟨_,h1,by rw [List.length_map],h2⟩
theorem signs_i:GF Tryz.prog 200 [] [] (strs signsI) []:=by
 have h:=Fields_g
 generalize signsI=l at *
 refine GC.enter Tryz.func200 Tryz.ntmps200 rfl (by simp only [gframe,grep,Nat.reduceSub];rfl) ?_
 refine w_grun ?_
 refine w_gcall [] (h) ?_
 refine w_grun ?_
 refine w_gret ?_
 exact ⟨rfl,rfl⟩
theorem isSign_i (s:Str):GF Tryz.prog 170 [.v (sv s)] [] (.v (.bool (isSg s))) []:=by
 have h:=signs_i
 have hc:=Contains_g signsI s (by decide)
 unfold isSg
 generalize signsI=l at *
 refine GC.enter Tryz.func170 Tryz.ntmps170 rfl (by simp only [gframe,grep,Nat.reduceSub];rfl) ?_
 refine w_grun ?_
 refine w_gcall [] (h) ?_
 refine w_grun ?_
 refine w_gcall [] (hc) ?_
 refine w_grun ?_
 refine w_gret ?_
 exact ⟨rfl,rfl⟩
end Go.Xg
namespace Go.Xg
open Go.RowKit Go.Xw Go.Proofs
open Go.Xp (Tok Nd T)
open Go.Sp (small dig namb begins wordAt wordEnd isBlank)
open Go.Im (signsI isSg cutS signTry signI digEnd numI tok0 tokI lexI idxI)
attribute [local irreducible] GW GL GO YG GC GA gthn ginb
theorem signAt_i (s:Str) (a:Nat) (c:UInt8) (hs:s.length≤1099511627776) (hc:s[a]?=some c):GF Tryz.prog 171 [.v (sv s),.v (ii (a:Nat))] [] (.v (sv (signI s a))) []:=by
 have hlt:a < s.length:=(List.getElem?_eq_some_iff.1 hc).1
 have hsm:=letter_i c
 refine GC.enter Tryz.func171 Tryz.ntmps171 rfl (by simp only [gframe,grep,Nat.reduceSub];rfl) ?_
 refine w_grun ?_
 refine GW.loop (fun x:Nat=>x) (fun x fr Γ=>fr=[.v (sv s),.v (ii (a:Nat)),.any,.any,.any,.v (ii (x:Nat)),.any,.any,.any,.any,.any,.any,.any,.any,.any,.any,.any,.any,.any,.any,.any,.any,.any,.any,.any,.any,.any,.any,.any,.any,.any,.any,.any,.any,.any,.any,.any,.any]∧Γ=[]∧x≤2∧∀ j,x < j→j≤2→signTry s a j=false) 2 ?_ ?_
 ·exact ⟨_,_,Wk.frm w_wkf,rfl,rfl,Nat.le_refl _,fun j h1 h2=>by omega⟩
 ·rintro x _ _ ⟨rfl,rfl,hx,hno⟩
  have hstep:∀ k,x=k+1→signTry s a x=false→∀ j,k < j→j≤2→signTry s a j=false:=fun k hk ht j h1 h2=>by
   by_cases hj:j=x
   ·rw [hj];exact ht
   ·exact hno j (by omega) h2
  have try_eq:∀ k,signTry s a k=(decide (a+k≤s.length)&&!(small c)&&isSg (cutS s a (a+k))):=fun k=>by unfold signTry;rw [hc]
  match x,hx,hno,hstep with
  | 0,_,hno,_ =>
   have e:signI s a=[]:=by unfold signI;rw [hno 2 (by omega) (by omega),hno 1 (by omega) (by omega)];rfl
   rw [e]
   refine w_grun ?_
   refine w_gexit ?_
   refine w_grun ?_
   refine w_gret ?_
   exact ⟨rfl,rfl⟩
  | 1,_,hno,hstep =>
   have hle:decide (((a+1:Nat):Int)≤(s.length:Int))=true:=by simpa using by omega
   have hb:a≤a+1∧a+1≤s.length:=by omega
   have ht:=try_eq 1
   rw [show decide (a+1≤s.length)=true from decide_eq_true (by omega)] at ht
   cases hsc:small c with
   | true =>
    rw [hsc] at hsm ht
    refine w_grun ?_
    refine w_gcall [] (hsm) ?_
    refine w_grun ?_
    exact ⟨0,⟨_,_,Wk.frm w_wkf,rfl,rfl,by omega,hstep 0 rfl ht⟩,by omega⟩
   | false =>
    rw [hsc] at hsm ht
    have hsg:=isSign_i (cutS s a (a+1))
    cases hg:isSg (cutS s a (a+1)) with
    | false =>
     rw [hg] at hsg ht
     refine w_grun ?_
     refine w_gcall [] (hsm) ?_
     refine w_grun ?_
     refine w_gcall [] (hsg) ?_
     refine w_grun ?_
     exact ⟨0,⟨_,_,Wk.frm w_wkf,rfl,rfl,by omega,hstep 0 rfl ht⟩,by omega⟩
    | true =>
     rw [hg] at hsg ht
     have e:signI s a=cutS s a (a+1):=by unfold signI;rw [hno 2 (by omega) (by omega),ht];rfl
     rw [e]
     refine w_grun ?_
     refine w_gcall [] (hsm) ?_
     refine w_grun ?_
     refine w_gcall [] (hsg) ?_
     refine w_grun ?_
     refine w_gret ?_
     exact ⟨rfl,rfl⟩
  | 2,_,hno,hstep =>
   have ht:=try_eq 2
   by_cases hl2:a+2≤s.length
   ·have hle:decide (((a+2:Nat):Int)≤(s.length:Int))=true:=by simpa using by omega
    have hb:a≤a+2∧a+2≤s.length:=by omega
    rw [show decide (a+2≤s.length)=true by simpa using hl2] at ht
    cases hsc:small c with
    | true =>
     rw [hsc] at hsm ht
     refine w_grun ?_
     refine w_gcall [] (hsm) ?_
     refine w_grun ?_
     exact ⟨1,⟨_,_,Wk.frm w_wkf,rfl,rfl,by omega,hstep 1 rfl ht⟩,by omega⟩
    | false =>
     rw [hsc] at hsm ht
     have hsg:=isSign_i (cutS s a (a+2))
     cases hg:isSg (cutS s a (a+2)) with
     | false =>
      rw [hg] at hsg ht
      refine w_grun ?_
      refine w_gcall [] (hsm) ?_
      refine w_grun ?_
      refine w_gcall [] (hsg) ?_
      refine w_grun ?_
      exact ⟨1,⟨_,_,Wk.frm w_wkf,rfl,rfl,by omega,hstep 1 rfl ht⟩,by omega⟩
     | true =>
      rw [hg] at hsg ht
      have e:signI s a=cutS s a (a+2):=by unfold signI;rw [ht];rfl
      rw [e]
      refine w_grun ?_
      refine w_gcall [] (hsm) ?_
      refine w_grun ?_
      refine w_gcall [] (hsg) ?_
      refine w_grun ?_
      refine w_gret ?_
      exact ⟨rfl,rfl⟩
   ·have hle:decide (((a+2:Nat):Int)≤(s.length:Int))=false:=by simpa using by omega
    rw [show decide (a+2≤s.length)=false by simpa using hl2] at ht
    refine w_grun ?_
    exact ⟨1,⟨_,_,Wk.frm w_wkf,rfl,rfl,by omega,hstep 1 rfl ht⟩,by omega⟩
  | n+3,hx,_,_=>omega
def numG (n:Int) (e:Nat) (a:Nat):GV:=if n > 2147483647 then .tup [.agg (encTok tok0),.v (ii (a:Nat)),.v (ii 3)] else .tup [.agg (encTok ⟨1,n,[],a⟩),.v (ii (e:Nat)),.v (ii 0)]
theorem token_num (s:Str) (a:Nat) (c:UInt8) (hs:s.length≤1099511627776) (hc:s[a]?=some c) (hd:dig c=true) :
  GF Tryz.prog 124 [.v (sv s),.v (ii (a:Nat))] [] (numG (numI (cutS s a (digEnd s a)) 0) (digEnd s a) a) []:=by
 have hlt:a < s.length:=(List.getElem?_eq_some_iff.1 hc).1
 have hdg:=digit_i c
 rw [hd] at hdg
 have hrun:=run_i 166 dig digit_i s a hs (by omega)
 obtain ⟨e1,e2,e3⟩:=Go.Sp.run_end s dig (s.length+1) a (by omega) (by omega)
 have hall:=Go.Im.run_all s dig (s.length+1) a (by omega)
 unfold digEnd
 generalize Go.Sp.run s dig (s.length+1) a=e at *
 clear e1
 generalize hR:numI (cutS s a e) 0=R
 refine GC.enter Tryz.func124 Tryz.ntmps124 rfl (by simp only [gframe,grep,Nat.reduceSub];rfl) ?_
 refine w_grun ?_
 refine w_gcall [] (hdg) ?_
 refine w_grun ?_
 refine w_gcall [] (hrun) ?_
 refine w_grun ?_
 refine GW.loop (fun x:Nat × Int=>e - x.1) (fun x fr Γ=>fr=[.v (sv s),.v (ii (a:Nat)),.any,.any,.loc 0 0,.v (ii 0),.v (ii 0),.any,.v (ii (e:Nat)),.v (ii x.2),.v (ii (x.1:Nat)),.any,.any,.any,.any,.any,.any,.any,.any,.any,.any,.any,.any,.any,.any,.any,.any,.any,.any,.any,.any,.any,.any,.any,.any,.any,.any,.any,.any,.any,.any,.any,.any,.any,.any,.any,.any,.any,.any,.any,.any,.any,.any,.any,.any,.any,.any,.any,.any,.any,.any,.any,.any,.any,.any,.any,.any,.any,.any,.any,.any,.any,.any,.any,.any,.any,.any,.any,.any,.any,.any]∧Γ=[.box 148 (encTok tok0)]∧a≤x.1∧x.1≤e∧numI (cutS s x.1 e) x.2=R∧0≤x.2∧x.2≤21474836480) (a,0) ?_ ?_
 ·exact ⟨_,_,Wk.frm w_wkf,rfl,rfl,Nat.le_refl _,e2,hR,by simp,by simp⟩
 ·rintro ⟨i,n⟩ _ _ ⟨rfl,rfl,hi,hie,h,hn0,hn1⟩
  simp only at hi hie h hn0 hn1
  have fin:R=n→True:=fun _=>trivial
  by_cases hlt2:i < e
  ·have hd1:decide ((i:Int) < (e:Int))=true:=by simpa using hlt2
   by_cases hn:n≤2147483647
   ·have hn':decide (n≤2147483647)=true:=by simpa using hn
    have hil:i < s.length:=by omega
    obtain ⟨d,hd2⟩:∃ d,s[i]?=some d:=⟨s[i],by simp [hil]⟩
    have hdd:dig d=true:=by
     have:d∈cutS s a e:=by
      unfold cutS
      rw [List.mem_iff_getElem?]
      exact ⟨i - a,by rw [List.getElem?_drop,List.getElem?_take,show a+(i - a)=i by omega,if_pos hlt2];exact hd2⟩
     exact hall d this
    have hrange:(48:Int)≤(d.toNat:Int)∧(d.toNat:Int)≤57:=by
     simp only [dig,Bool.and_eq_true,decide_eq_true_eq] at hdd;exact hdd
    rw [Go.Im.cutS_cons hd2 hlt2 e3,numI,if_pos hn] at h
    refine w_grun ?_
    exact ⟨(i+1,10 * n+((d.toNat:Int) - 48)),⟨_,_,Wk.frm w_wkf,rfl,rfl,by simp only;omega,hlt2,h,by simp only;omega,by simp only;omega⟩,by simp only;omega⟩
   ·have hn':decide (n≤2147483647)=false:=by simpa using hn
    have hRn:R=n:=by
     rw [←h]
     cases hw:cutS s i e with
     | nil=>rw [numI]
     | cons d r=>rw [numI,if_neg hn]
    rw [hRn]
    clear h hRn hR fin
    have hn2:decide (2147483647 < n)=true:=by simpa using by omega
    unfold numG
    rw [if_pos (by omega)]
    refine w_grun ?_
    refine w_gexit ?_
    refine w_grun ?_
    refine w_gretctt ?_
    exact ⟨rfl,rfl⟩
  ·have hd1:decide ((i:Int) < (e:Int))=false:=by simpa using by omega
   have hRn:R=n:=by
    rw [←h]
    have:cutS s i e=[]:=List.eq_nil_of_length_eq_zero (by rw [Go.Im.cutS_len e3];omega)
    rw [this,numI]
   rw [hRn]
   clear h hRn hR fin
   unfold numG
   by_cases hn:n > 2147483647
   ·have hn2:decide (2147483647 < n)=true:=by simpa using hn
    rw [if_pos hn]
    refine w_grun ?_
    refine w_gexit ?_
    refine w_grun ?_
    refine w_gretctt ?_
    exact ⟨rfl,rfl⟩
   ·have hn2:decide (2147483647 < n)=false:=by simpa using hn
    rw [if_neg hn]
    refine w_grun ?_
    refine w_gexit ?_
    refine w_grun ?_
    refine w_gretctt ?_
    exact ⟨rfl,rfl⟩
theorem token_i (s:Str) (a:Nat) (c:UInt8) (hs:s.length≤1099511627776) (hc:s[a]?=some c) :
  GF Tryz.prog 124 [.v (sv s),.v (ii (a:Nat))] [] (.tup [.agg (encTok (tokI s a c).1),.v (ii ((tokI s a c).2.1:Nat)),.v (ii (tokI s a c).2.2)]) []:=by
 have hlt:a < s.length:=(List.getElem?_eq_some_iff.1 hc).1
 have hdg:=digit_i c
 have hsm:=letter_i c
 by_cases hd:dig c=true
 ·have h:=token_num s a c hs hc hd
  unfold numG at h
  unfold tokI
  rw [if_pos hd]
  split at h
  ·rename_i hn;rw [if_pos hn];exact h
  ·rename_i hn;rw [if_neg hn];exact h
 ·have hd':dig c=false:=by simpa using hd
  unfold tokI
  rw [if_neg hd]
  rw [hd'] at hdg
  by_cases hsc:small c=true
  ·rw [if_pos hsc]
   rw [hsc] at hsm
   have hrun:=run_i 169 namb nameByte_i s a hs (by omega)
   obtain ⟨e1,e2,e3⟩:=Go.Sp.run_end s namb (s.length+1) a (by omega) (by omega)
   have hw:wordAt s a=(s.take (wordEnd s a)).drop a:=rfl
   have hsg:=isSign_i (wordAt s a)
   unfold wordEnd at hw ⊢
   rw [hw] at hsg ⊢
   generalize Go.Sp.run s namb (s.length+1) a=e at *
   have hb:a≤e∧e≤s.length:=⟨e2,e3⟩
   cases hg:isSg ((s.take e).drop a) with
   | true =>
    rw [hg] at hsg
    refine GC.enter Tryz.func124 Tryz.ntmps124 rfl (by simp only [gframe,grep,Nat.reduceSub];rfl) ?_
    refine w_grun ?_
    refine w_gcall [] (hdg) ?_
    refine w_grun ?_
    refine w_gcall [] (hsm) ?_
    refine w_grun ?_
    refine w_gcall [] (hrun) ?_
    refine w_grun ?_
    refine w_gcall [] (hsg) ?_
    refine w_grun ?_
    refine w_gretctt ?_
    exact ⟨rfl,rfl⟩
   | false =>
    rw [hg] at hsg
    refine GC.enter Tryz.func124 Tryz.ntmps124 rfl (by simp only [gframe,grep,Nat.reduceSub];rfl) ?_
    refine w_grun ?_
    refine w_gcall [] (hdg) ?_
    refine w_grun ?_
    refine w_gcall [] (hsm) ?_
    refine w_grun ?_
    refine w_gcall [] (hrun) ?_
    refine w_grun ?_
    refine w_gcall [] (hsg) ?_
    refine w_grun ?_
    refine w_gretctt ?_
    exact ⟨rfl,rfl⟩
  ·have hsc':small c=false:=by simpa using hsc
   rw [if_neg hsc]
   rw [hsc'] at hsm
   have hsa:=signAt_i s a c hs hc
   have hlen:(signI s a).length≤2:=by
    have:(signI s a=cutS s a (a+2)∨signI s a=cutS s a (a+1))∨signI s a=[]:=by
     unfold signI;split
     ·exact .inl (.inl rfl)
     ·split
      ·exact .inl (.inr rfl)
      ·exact .inr rfl
    rcases this with (h | h) | h <;> rw [h]
    ·unfold cutS;rw [List.length_drop,List.length_take];omega
    ·unfold cutS;rw [List.length_drop,List.length_take];omega
    ·simp
   generalize signI s a=x at *
   by_cases hx:x=[]
   ·have hx':(x==[])=true:=by simpa using hx
    rw [if_pos hx]
    refine GC.enter Tryz.func124 Tryz.ntmps124 rfl (by simp only [gframe,grep,Nat.reduceSub];rfl) ?_
    refine w_grun ?_
    refine w_gcall [] (hdg) ?_
    refine w_grun ?_
    refine w_gcall [] (hsm) ?_
    refine w_grun ?_
    refine w_gcall [] (hsa) ?_
    refine w_grun ?_
    refine w_gretctt ?_
    exact ⟨rfl,rfl⟩
   ·have hx':(x==[])=false:=by simpa using hx
    rw [if_neg hx]
    refine GC.enter Tryz.func124 Tryz.ntmps124 rfl (by simp only [gframe,grep,Nat.reduceSub];rfl) ?_
    refine w_grun ?_
    refine w_gcall [] (hdg) ?_
    refine w_grun ?_
    refine w_gcall [] (hsm) ?_
    refine w_grun ?_
    refine w_gcall [] (hsa) ?_
    refine w_grun ?_
    refine w_gretctt ?_
    exact ⟨rfl,rfl⟩
end Go.Xg
namespace Go.Xg
open Go.RowKit Go.Xw Go.Proofs
open Go.Xp (Tok Nd T)
open Go.Sp (small dig namb begins wordAt wordEnd isBlank)
open Go.Im (signsI isSg cutS signTry signI digEnd numI tok0 tokI lexI idxI)
attribute [local irreducible] GW GL GO YG GC GA gthn ginb
def hasP (x t:Str):Bool:=decide (t.length≤x.length)&&(x.take t.length==t)
theorem HasPrefix0 (x t:Str) (hx:x.length≤1099511627776) (ht:t.length≤1099511627776):GF Tryz.prog 165 [.v (sv x),.v (sv t)] [] (.v (.bool (hasP x t))) []:=by
 unfold hasP
 by_cases h:t.length≤x.length
 ·have h1:decide ((t.length:Int)≤(x.length:Int))=true:=by simpa using h
  rw [decide_eq_true h]
  refine GC.enter Tryz.func165 Tryz.ntmps165 rfl (by simp only [gframe,grep,Nat.reduceSub];rfl) ?_
  refine w_grun ?_
  refine w_gret ?_
  exact ⟨rfl,rfl⟩
 ·have h1:decide ((t.length:Int)≤(x.length:Int))=false:=by simpa using by omega
  rw [decide_eq_false h]
  refine GC.enter Tryz.func165 Tryz.ntmps165 rfl (by simp only [gframe,grep,Nat.reduceSub];rfl) ?_
  refine w_grun ?_
  refine w_gret ?_
  exact ⟨rfl,rfl⟩
theorem HasPrefix_g (x t:Str) (hx:x.length≤1099511627776) (ht:t.length≤1099511627776):GF Tryz.prog 123 [.v (sv x),.v (sv t)] [] (.v (.bool (hasP x t))) []:=by
 have h:=HasPrefix0 x t hx ht
 generalize hasP x t=b at *
 refine GC.enter Tryz.func123 Tryz.ntmps123 rfl (by simp only [gframe,grep,Nat.reduceSub];rfl) ?_
 refine w_grun ?_
 refine w_gcall [] (h) ?_
 refine w_grun ?_
 refine w_gret ?_
 exact ⟨rfl,rfl⟩
theorem hasP_begins {s t:Str} {a:Nat} (ha:a≤s.length):hasP (s.drop a) t=begins s a t:=by
 unfold hasP begins
 rw [List.length_drop,List.drop_take,show a+t.length - a=t.length by omega]
 congr 1
 rw [Bool.eq_iff_iff];simp;omega
theorem IndexByte_g (c:UInt8):GF Tryz.prog 122 [.v (sv [32,9,10,13]),by_ c] [] (.v (ii (Go.Lib.indexByte [32,9,10,13] c))) []:=by
 refine GF.lib (vs:=[sv [32,9,10,13],.int .u8 (c.toNat:Int)]) fun K β w ht hf=>?_
 refine Ret.of_calls (Calls.mono (Tryz.strings_IndexByte ⟨[32,9,10,13].toArray⟩ (c.toNat:Int) w) ?_)
 rintro e w' ⟨h1,h2⟩
 refine ⟨_,h1,?_,by rw [h2];exact Ext.refl w⟩
 simp
theorem Index2_g (x:Str) (hx:x.length≤4294967280):GF Tryz.prog 108 [.v (sv x),.v (sv [42,47])] [] (.v (ii (Go.Lib.index x [42,47]))) []:=by
 refine GF.lib (vs:=[sv x,sv [42,47]]) fun K β w ht hf=>?_
 obtain ⟨m,hm⟩:=ht.maxLen hf
 refine Ret.of_calls (Calls.mono (Tryz.strings_Index ⟨x.toArray⟩ ⟨[42,47].toArray⟩ m w (by show (x.toArray).size < _;simp;omega) hm) ?_)
 rintro e w' ⟨h1,h2⟩
 refine ⟨_,h1,?_,by rw [h2];exact Ext.refl w⟩
 simp
theorem blank_eq (c:UInt8):decide ((0:Int)≤Go.Lib.indexByte [32,9,10,13] c)=isBlank c:=by
 have hb:isBlank c=((32:UInt8)==c || (9:UInt8)==c || (10:UInt8)==c || (13:UInt8)==c):=by
  have e:∀ k:UInt8,((c.toNat:Int)==(k.toNat:Int))=(k==c):=fun k=>by
   rw [Bool.eq_iff_iff];simp only [beq_iff_eq]
   exact ⟨fun h=>by
    have:c.toNat=k.toNat:=by omega
    exact (UInt8.toNat_inj.1 this).symm,fun h=>by rw [h]⟩
  have e1:=e 32;have e2:=e 9;have e3:=e 10;have e4:=e 13
  unfold isBlank
  rw [←e1,←e2,←e3,←e4];rfl
 rw [hb]
 unfold Go.Lib.indexByte Go.Lib.indexByte Go.Lib.indexByte Go.Lib.indexByte Go.Lib.indexByte
 cases (32:UInt8)==c <;> cases (9:UInt8)==c <;> cases (10:UInt8)==c <;> cases (13:UInt8)==c <;> decide
theorem index_idx (l:Str):Go.Lib.index l [42,47]=(match idxI l with | none => -1 | some n=>(n:Int)):=by
 induction l with
 | nil=>rfl
 | cons b l ih =>
  rw [Go.Lib.index,idxI]
  split
  ·rfl
  ·rw [ih]
   cases idxI l with
   | none=>rfl
   | some n =>
    simp only
    rw [if_neg (by simp <;> omega)]
    simp
theorem lexAll_i (s:Str) (f:Nat) (ts:List Tok) (c z:Int) (hs:s.length≤4294967280) (h:lexI s f 0 []=some (ts,c,z)) :
  GF Tryz.prog 77 [.v (sv s)] [] (.tup [toks ts,.v (ii c),.v (ii z)]) []:=by
 refine GC.enter Tryz.func77 Tryz.ntmps77 rfl (by simp only [gframe,grep,Nat.reduceSub];rfl) ?_
 refine w_grun ?_
 refine GW.wk (Wk.nilV (t:=5) (a:=none) (c:=0) 148 4 rfl) ?_
 refine GW.loop (fun x:Nat × Nat × List Tok=>x.1) (fun x fr Γ=>∃ n rows,fr=[.v (sv s),.any,.v (.slice none 0 0),.v (ii 0),.v (ii 0),.vec 0 n,.v (ii (x.2.1:Nat)),.any,.any,.any,.any,.any,.any,.any,.any,.any,.any,.any,.any,.any,.any,.any,.any,.any,.any,.any,.any,.any,.any,.any,.any,.any,.any,.any,.any,.any,.any,.any,.any,.any,.any,.any,.any,.any,.any,.any,.any,.any,.any,.any,.any,.any,.any,.any,.any]∧Γ=[.vec 148 4 0 rows]∧rows.length=n∧rows=x.2.2.map encTok∧x.2.1≤s.length∧n≤x.2.1∧lexI s x.1 x.2.1 x.2.2=some (ts,c,z)) (f,0,[]) ?_ ?_
 ·exact ⟨_,_,Wk.frm w_wkf,0,[],rfl,rfl,rfl,rfl,Nat.zero_le _,Nat.le_refl _,h⟩
 ·clear h
  rintro ⟨f,a,acc⟩ _ _ ⟨n,rows,rfl,rfl,hn,hrow,ha,hna,h⟩
  simp only at hrow ha hna h
  cases f with
  | zero=>cases h
  | succ f =>
  rw [lexI] at h
  cases hc:s[a]? with
  | none =>
   rw [hc] at h
   cases h
   have hge:s.length≤a:=List.getElem?_eq_none_iff.1 hc
   have hd:decide ((a:Int) < (s.length:Int))=false:=by simpa using hge
   refine w_grun ?_
   refine w_gexit ?_
   refine GW.wk (Wk.snap (t:=5) rfl rfl rfl hn) ?_
   refine w_grun ?_
   refine w_gret3 ?_
   exact ⟨by rw [hrow];rfl,rfl⟩
  | some ch =>
   rw [hc] at h
   simp only at h
   have hlt:a < s.length:=(List.getElem?_eq_some_iff.1 hc).1
   have hd:decide ((a:Int) < (s.length:Int))=true:=by simpa using hlt
   have hib:=IndexByte_g ch
   have hbe:=blank_eq ch
   cases hb:isBlank ch with
   | true =>
    rw [if_pos hb] at h
    rw [hb] at hbe
    generalize Go.Lib.indexByte [32,9,10,13] ch=ib at *
    refine w_grun ?_
    refine w_gcall [] (hib) ?_
    refine w_grun ?_
    refine w_gexit ?_
    exact ⟨(f,a+1,acc),⟨_,_,Wk.frm w_wkf,n,rows,rfl,rfl,hn,hrow,hlt,by simp only;omega,h⟩,by simp⟩
   | false =>
    rw [if_neg (by rw [hb];decide)] at h
    rw [hb] at hbe
    generalize Go.Lib.indexByte [32,9,10,13] ch=ib at *
    have hpre:=HasPrefix_g (s.drop a) [47,42] (by rw [List.length_drop];omega) (by decide)
    rw [hasP_begins ha] at hpre
    cases hbg:begins s a [47,42] with
    | true =>
     rw [if_pos hbg] at h
     rw [hbg] at hpre
     have hbl:=Go.Sp.begins_len hbg
     simp only [List.length_cons,List.length_nil] at hbl
     have hix:=Index2_g (s.drop (a+2)) (by rw [List.length_drop];omega)
     rw [index_idx] at hix
     have ha2:a+2≤s.length:=by omega
     cases hi:idxI (s.drop (a+2)) with
     | none =>
      rw [hi] at hix h
      cases h
      refine w_grun ?_
      refine w_gcall [] (hib) ?_
      refine w_grun ?_
      refine w_gcall [] (hpre) ?_
      refine w_grun ?_
      refine w_gcall [] (hix) ?_
      refine w_grun ?_
      refine w_gret3l ?_
      exact ⟨_,w_gle,rfl,rfl⟩
     | some e =>
      rw [hi] at hix h
      have hel:=Go.Im.idxI_le hi
      rw [List.length_drop] at hel
      have he0:decide (((e:Nat):Int) < 0)=false:=by simp
      refine w_grun ?_
      refine w_gcall [] (hib) ?_
      refine w_grun ?_
      refine w_gcall [] (hpre) ?_
      refine w_grun ?_
      refine w_gcall [] (hix) ?_
      refine w_grun ?_
      refine w_gexit ?_
      exact ⟨(f,a+(e+4),acc),⟨_,_,Wk.frm w_wkf,n,rows,rfl,rfl,hn,hrow,by simp only;omega,by simp only;omega,h⟩,by simp⟩
    | false =>
     rw [if_neg (by rw [hbg];decide)] at h
     rw [hbg] at hpre
     have htk:=token_i s a ch (by omega) hc
     have hok:=fun h0=>Go.Im.tokI_ok hc h0
     generalize tokI s a ch=R at *
     obtain ⟨t,e,code⟩:=R
     simp only at htk h hok
     by_cases h0:code=0
     ·rw [if_neg (by simpa using h0)] at h
      have h0':(code != 0)=false:=by simpa using h0
      obtain ⟨_,_,k3,k4⟩:=hok h0
      refine w_grun ?_
      refine w_gcall [] (hib) ?_
      refine w_grun ?_
      refine w_gcall [] (hpre) ?_
      refine w_grun ?_
      refine w_gcall [] (htk) ?_
      refine w_grun ?_
      refine w_gpush ?_
      refine w_grun ?_
      exact ⟨(f,e,acc++[t]),⟨_,_,(Wk.cut (n:=1) (Nat.le_of_ble_eq_true rfl) rfl).trans (Wk.frm w_wkf),_,_,rfl,rfl,by simp [hn],by rw [List.map_append,hrow];rfl,k4,by simp only;omega,h⟩,by simp⟩
     ·rw [if_pos h0] at h
      have h0':(code != 0)=true:=by simpa using h0
      cases h
      refine w_grun ?_
      refine w_gcall [] (hib) ?_
      refine w_grun ?_
      refine w_gcall [] (hpre) ?_
      refine w_grun ?_
      refine w_gcall [] (htk) ?_
      refine w_grun ?_
      refine w_gret3l ?_
      exact ⟨_,w_gle,rfl,rfl⟩
end Go.Xg
namespace Go.Xg
open Go.RowKit Go.Xw Go.Proofs
open Go.Xp (Tok Nd T szT szL)
open Go.Sp (Src)
open Go.Im (trN trK tr bodI kOkN kOk kOks)
attribute [local irreducible] GW GL GO YG GC GA gthn ginb
theorem kidsOk_i:∀ (N:Nat) (t:T),szT t≤N→szT t≤1099511627776→GF Tryz.prog 75 [uT t] [] (.v (.bool (kOk t))) []:=by
 intro N
 induction N with
 | zero=>intro t h;rw [Go.Xp.szT_eq] at h;omega
 | succ N ih =>
 intro t hN hb
 rw [Go.Xp.szT_eq] at hN hb
 have hkl:=Go.Xp.len_le_szL t.kids
 have htl:=tTs_len t.kids
 rw [Go.Im.kOk_eq,Go.Im.kOks_all]
 unfold uT
 generalize t.n.kind=kd
 refine GC.enter Tryz.func75 Tryz.ntmps75 rfl (by simp only [gframe,grep,Nat.reduceSub];rfl) ?_
 refine w_grunx ?_
 refine GW.join (fun fr Γ=>fr=[.box [.v (ii kd),.v (ii t.n.at_),.v (ii t.n.n),.v (sv t.n.s),ints t.n.kids,.sl 1 (tTs t.kids)] 0,.any,.any,.any,.v (.bool (kOkN kd t.kids.length)),.any,.any,.any,.any,.any,.any,.any,.any,.any,.any,.any,.any,.any,.any,.any,.any,.any,.any,.any,.any,.any,.any,.any,.any,.any,.any,.any,.any,.any,.any,.any,.any,.any,.any,.any,.any,.any,.any,.any,.any,.any,.any,.any,.any,.any,.any,.any,.any,.any,.any,.any,.any,.any,.any,.any,.any,.any,.any,.any]∧Γ=[]) ?_ ?_
 ·rw [←htl]
  generalize (tTs t.kids)=l
  by_cases h1:kd=1
  ·subst h1
   have f1:((1:Int)==1)=true:=by decide
   rw [show kOkN 1 l.length=((l.length:Int)==0) by unfold kOkN;simp]
   refine w_grun ?_
   exact ⟨_,_,Wk.frm w_wkf,rfl,rfl⟩
  by_cases h2:kd=2
  ·subst h2
   have f1:((2:Int)==1)=false:=by decide
   have f2:((2:Int)==2)=true:=by decide
   rw [show kOkN 2 l.length=((l.length:Int)==0) by unfold kOkN;simp]
   refine w_grun ?_
   exact ⟨_,_,Wk.frm w_wkf,rfl,rfl⟩
  by_cases h4:kd=4
  ·subst h4
   have f1:((4:Int)==1)=false:=by decide
   have f2:((4:Int)==2)=false:=by decide
   have f4:((4:Int)==4)=true:=by decide
   rw [show kOkN 4 l.length=true by unfold kOkN;simp]
   refine w_grun ?_
   exact ⟨_,_,Wk.frm w_wkf,rfl,rfl⟩
  by_cases h14:kd=14
  ·subst h14
   have f1:((14:Int)==1)=false:=by decide
   have f2:((14:Int)==2)=false:=by decide
   have f4:((14:Int)==4)=false:=by decide
   have f14:((14:Int)==14)=true:=by decide
   rw [show kOkN 14 l.length=true by unfold kOkN;simp]
   refine w_grun ?_
   exact ⟨_,_,Wk.frm w_wkf,rfl,rfl⟩
  by_cases h3:kd=3
  ·subst h3
   have f1:((3:Int)==1)=false:=by decide
   have f2:((3:Int)==2)=false:=by decide
   have f4:((3:Int)==4)=false:=by decide
   have f14:((3:Int)==14)=false:=by decide
   have f3:((3:Int)==3)=true:=by decide
   rw [show kOkN 3 l.length=((l.length:Int)==1) by unfold kOkN;simp]
   refine w_grun ?_
   exact ⟨_,_,Wk.frm w_wkf,rfl,rfl⟩
  by_cases h5:kd=5
  ·subst h5
   have f1:((5:Int)==1)=false:=by decide
   have f2:((5:Int)==2)=false:=by decide
   have f4:((5:Int)==4)=false:=by decide
   have f14:((5:Int)==14)=false:=by decide
   have f3:((5:Int)==3)=false:=by decide
   have f5:((5:Int)==5)=true:=by decide
   rw [show kOkN 5 l.length=((l.length:Int)==1) by unfold kOkN;simp]
   refine w_grun ?_
   exact ⟨_,_,Wk.frm w_wkf,rfl,rfl⟩
  by_cases h7:kd=7
  ·subst h7
   have f1:((7:Int)==1)=false:=by decide
   have f2:((7:Int)==2)=false:=by decide
   have f4:((7:Int)==4)=false:=by decide
   have f14:((7:Int)==14)=false:=by decide
   have f3:((7:Int)==3)=false:=by decide
   have f5:((7:Int)==5)=false:=by decide
   have f7:((7:Int)==7)=true:=by decide
   rw [show kOkN 7 l.length=((l.length:Int)==1) by unfold kOkN;simp]
   refine w_grun ?_
   exact ⟨_,_,Wk.frm w_wkf,rfl,rfl⟩
  by_cases h11:kd=11
  ·subst h11
   have f1:((11:Int)==1)=false:=by decide
   have f2:((11:Int)==2)=false:=by decide
   have f4:((11:Int)==4)=false:=by decide
   have f14:((11:Int)==14)=false:=by decide
   have f3:((11:Int)==3)=false:=by decide
   have f5:((11:Int)==5)=false:=by decide
   have f7:((11:Int)==7)=false:=by decide
   have f11:((11:Int)==11)=true:=by decide
   rw [show kOkN 11 l.length=((l.length:Int)==1) by unfold kOkN;simp]
   refine w_grun ?_
   exact ⟨_,_,Wk.frm w_wkf,rfl,rfl⟩
  by_cases h12:kd=12
  ·subst h12
   have f1:((12:Int)==1)=false:=by decide
   have f2:((12:Int)==2)=false:=by decide
   have f4:((12:Int)==4)=false:=by decide
   have f14:((12:Int)==14)=false:=by decide
   have f3:((12:Int)==3)=false:=by decide
   have f5:((12:Int)==5)=false:=by decide
   have f7:((12:Int)==7)=false:=by decide
   have f11:((12:Int)==11)=false:=by decide
   have f12:((12:Int)==12)=true:=by decide
   rw [show kOkN 12 l.length=((l.length:Int)==1) by unfold kOkN;simp]
   refine w_grun ?_
   exact ⟨_,_,Wk.frm w_wkf,rfl,rfl⟩
  by_cases h13:kd=13
  ·subst h13
   have f1:((13:Int)==1)=false:=by decide
   have f2:((13:Int)==2)=false:=by decide
   have f4:((13:Int)==4)=false:=by decide
   have f14:((13:Int)==14)=false:=by decide
   have f3:((13:Int)==3)=false:=by decide
   have f5:((13:Int)==5)=false:=by decide
   have f7:((13:Int)==7)=false:=by decide
   have f11:((13:Int)==11)=false:=by decide
   have f12:((13:Int)==12)=false:=by decide
   have f13:((13:Int)==13)=true:=by decide
   rw [show kOkN 13 l.length=((l.length:Int)==1) by unfold kOkN;simp]
   refine w_grun ?_
   exact ⟨_,_,Wk.frm w_wkf,rfl,rfl⟩
  by_cases h6:kd=6
  ·subst h6
   have f1:((6:Int)==1)=false:=by decide
   have f2:((6:Int)==2)=false:=by decide
   have f4:((6:Int)==4)=false:=by decide
   have f14:((6:Int)==14)=false:=by decide
   have f3:((6:Int)==3)=false:=by decide
   have f5:((6:Int)==5)=false:=by decide
   have f7:((6:Int)==7)=false:=by decide
   have f11:((6:Int)==11)=false:=by decide
   have f12:((6:Int)==12)=false:=by decide
   have f13:((6:Int)==13)=false:=by decide
   have f6:((6:Int)==6)=true:=by decide
   rw [show kOkN 6 l.length=((l.length:Int)==2) by unfold kOkN;simp]
   refine w_grun ?_
   exact ⟨_,_,Wk.frm w_wkf,rfl,rfl⟩
  by_cases h8:kd=8
  ·subst h8
   have f1:((8:Int)==1)=false:=by decide
   have f2:((8:Int)==2)=false:=by decide
   have f4:((8:Int)==4)=false:=by decide
   have f14:((8:Int)==14)=false:=by decide
   have f3:((8:Int)==3)=false:=by decide
   have f5:((8:Int)==5)=false:=by decide
   have f7:((8:Int)==7)=false:=by decide
   have f11:((8:Int)==11)=false:=by decide
   have f12:((8:Int)==12)=false:=by decide
   have f13:((8:Int)==13)=false:=by decide
   have f6:((8:Int)==6)=false:=by decide
   have f8:((8:Int)==8)=true:=by decide
   rw [show kOkN 8 l.length=((l.length:Int)==2) by unfold kOkN;simp]
   refine w_grun ?_
   exact ⟨_,_,Wk.frm w_wkf,rfl,rfl⟩
  by_cases h10:kd=10
  ·subst h10
   have f1:((10:Int)==1)=false:=by decide
   have f2:((10:Int)==2)=false:=by decide
   have f4:((10:Int)==4)=false:=by decide
   have f14:((10:Int)==14)=false:=by decide
   have f3:((10:Int)==3)=false:=by decide
   have f5:((10:Int)==5)=false:=by decide
   have f7:((10:Int)==7)=false:=by decide
   have f11:((10:Int)==11)=false:=by decide
   have f12:((10:Int)==12)=false:=by decide
   have f13:((10:Int)==13)=false:=by decide
   have f6:((10:Int)==6)=false:=by decide
   have f8:((10:Int)==8)=false:=by decide
   have f10:((10:Int)==10)=true:=by decide
   rw [show kOkN 10 l.length=((l.length:Int)==2) by unfold kOkN;simp]
   refine w_grun ?_
   exact ⟨_,_,Wk.frm w_wkf,rfl,rfl⟩
  by_cases h9:kd=9
  ·subst h9
   have f1:((9:Int)==1)=false:=by decide
   have f2:((9:Int)==2)=false:=by decide
   have f4:((9:Int)==4)=false:=by decide
   have f14:((9:Int)==14)=false:=by decide
   have f3:((9:Int)==3)=false:=by decide
   have f5:((9:Int)==5)=false:=by decide
   have f7:((9:Int)==7)=false:=by decide
   have f11:((9:Int)==11)=false:=by decide
   have f12:((9:Int)==12)=false:=by decide
   have f13:((9:Int)==13)=false:=by decide
   have f6:((9:Int)==6)=false:=by decide
   have f8:((9:Int)==8)=false:=by decide
   have f10:((9:Int)==10)=false:=by decide
   have f9:((9:Int)==9)=true:=by decide
   cases hq:((l.length:Int)==2) with
   | true =>
    rw [show kOkN 9 l.length=true by unfold kOkN;simp [hq]]
    refine w_grun ?_
    exact ⟨_,_,Wk.frm w_wkf,rfl,rfl⟩
   | false =>
    rw [show kOkN 9 l.length=((l.length:Int)==3) by unfold kOkN;simp [hq]]
    refine w_grun ?_
    exact ⟨_,_,Wk.frm w_wkf,rfl,rfl⟩
  have e:kOkN kd l.length=false:=by unfold kOkN;simp [h1,h2,h4,h14,h3,h5,h7,h11,h12,h13,h6,h8,h10,h9]
  rw [e]
  have g1:(kd==1)=false:=by simpa using h1
  have g2:(kd==2)=false:=by simpa using h2
  have g4:(kd==4)=false:=by simpa using h4
  have g14:(kd==14)=false:=by simpa using h14
  have g3:(kd==3)=false:=by simpa using h3
  have g5:(kd==5)=false:=by simpa using h5
  have g7:(kd==7)=false:=by simpa using h7
  have g11:(kd==11)=false:=by simpa using h11
  have g12:(kd==12)=false:=by simpa using h12
  have g13:(kd==13)=false:=by simpa using h13
  have g6:(kd==6)=false:=by simpa using h6
  have g8:(kd==8)=false:=by simpa using h8
  have g10:(kd==10)=false:=by simpa using h10
  have g9:(kd==9)=false:=by simpa using h9
  refine w_grun ?_
  exact ⟨_,_,Wk.frm w_wkf,rfl,rfl⟩
 ·rintro _ _ ⟨rfl,rfl⟩
  generalize kOkN kd t.kids.length=b0
  refine w_grun ?_
  refine GW.range (tTs t.kids).length (fun k fr Γ=>fr=[.any,.any,.any,.any,.v (.bool (b0&&(t.kids.take k).all kOk)),.any,.any,.any,.any,.any,.any,.any,.any,.any,.any,.any,.any,.any,.any,.any,.any,.any,.any,.any,.any,.any,.any,.any,.any,.any,.any,.any,.any,.any,.any,.any,.any,.any,.any,.any,.any,.any,.any,.any,.any,.any,.any,.any,.any,.any,.any,.sl 1 (tTs t.kids),.v (ii ((tTs t.kids).length:Int)),.v (ii (k:Nat)),.any,.any,.any,.any,.any,.any,.any,.any,.any,.any]∧Γ=[]) ?_ (by omega) ?_ ?_ ?_
  ·refine ⟨_,_,Wk.frm (fr':=[.any,.any,.any,.any,.v (.bool b0),.any,.any,.any,.any,.any,.any,.any,.any,.any,.any,.any,.any,.any,.any,.any,.any,.any,.any,.any,.any,.any,.any,.any,.any,.any,.any,.any,.any,.any,.any,.any,.any,.any,.any,.any,.any,.any,.any,.any,.any,.any,.any,.any,.any,.any,.any,.sl 1 (tTs t.kids),.v (ii ((tTs t.kids).length:Int)),.v (ii (0:Nat)),.any,.any,.any,.any,.any,.any,.any,.any,.any,.any]) w_wkf,?_,rfl⟩
   rw [List.take_zero,List.all_nil,Bool.and_true]
  ·rintro k _ _ ⟨rfl,rfl⟩;exact ⟨rfl,rfl,rfl⟩
  ·rintro k _ _ hlt ⟨rfl,rfl⟩
   rw [htl] at hlt
   obtain ⟨kid,hkid⟩:∃ kid,t.kids[k]?=some kid:=⟨t.kids[k],by simp [hlt]⟩
   have hr:=row_tT hkid
   have hsz:=Go.Xp.szL_take_lt hkid
   have hle:=Go.Xp.szL_take_le t.kids (k+1)
   have hih:=ih kid (by omega) (by omega)
   have hall:(t.kids.take (k+1)).all kOk=((t.kids.take k).all kOk&&kOk kid):=by rw [List.take_add_one,hkid,List.all_append];simp
   rw [hall,←Bool.and_assoc]
   generalize (b0&&(t.kids.take k).all kOk)=b at *
   cases b with
   | true =>
    refine w_grun ?_
    refine w_gcall [] (hih) ?_
    refine w_grun ?_
    exact ⟨rfl,rfl,_,_,Wk.frm w_wkf,rfl,rfl⟩
   | false =>
    refine w_grun ?_
    exact ⟨rfl,rfl,_,_,Wk.frm w_wkf,rfl,rfl⟩
  ·rintro _ _ ⟨rfl,rfl⟩
   rw [htl,List.take_length]
   refine w_grun ?_
   refine w_gret ?_
   exact ⟨rfl,rfl⟩
def notOk (l:List T):Int:=match l.findIdx? (fun t=>!(kOk t)) with | some i=>(i:Int) | none => -1
theorem kidsNot_i (t:T) (hb:szT t≤1099511627776):GF Tryz.prog 74 [uT t] [] (.v (.bool (!(kOk t)))) []:=by
 have h:=kidsOk_i _ t (Nat.le_refl _) hb
 generalize kOk t=b at *
 refine GC.enter Tryz.func74 Tryz.ntmps74 rfl (by simp only [gframe,grep,Nat.reduceSub];rfl) ?_
 refine w_grun ?_
 refine w_gcall [] (h) ?_
 refine w_grun ?_
 refine w_gret ?_
 exact ⟨rfl,rfl⟩
theorem IndexFunc_t (l:List T) (hl:l.length≤1099511627776) (hb:∀ t∈l,szT t≤1099511627776) :
  GF Tryz.prog 121 [.sl 1 (tTs l),.v (.func (.func 74) #[] #[])] [] (.v (ii (notOk l))) []:=by
 have htl:=tTs_len l
 refine GC.enter Tryz.func121 Tryz.ntmps121 rfl (by simp only [gframe,grep,Nat.reduceSub];rfl) ?_
 refine w_grun ?_
 refine GW.range (tTs l).length (fun k fr Γ=>fr=[.sl 1 (tTs l),.v (.func (.func 74) #[] #[]),.any,.any,.any,.any,.any,.v (ii ((tTs l).length:Int)),.v (ii (k:Nat)),.any,.any,.any,.any,.any,.any,.any,.any,.any,.any]∧Γ=[]∧(l.take k).all kOk=true) ?_ (by omega) ?_ ?_ ?_
 ·exact ⟨_,_,Wk.frm w_wkf,rfl,rfl,rfl⟩
 ·rintro k _ _ ⟨rfl,rfl,_⟩;exact ⟨rfl,rfl,rfl⟩
 ·rintro k _ _ hlt ⟨rfl,rfl,hall⟩
  rw [htl] at hlt
  have hki:l[k]?=some l[k]:=by simp [hlt]
  have hr:=row_tT hki
  have hno:=kidsNot_i l[k] (hb _ (List.getElem_mem hlt))
  have hnext:(l.take (k+1)).all kOk=((l.take k).all kOk&&kOk l[k]):=by rw [List.take_add_one,hki,List.all_append];simp
  have hfi:kOk l[k]=false→notOk l=(k:Int):=fun h0=>by
   have:l.findIdx? (fun t=>!(kOk t))=some k:=by
    rw [List.findIdx?_eq_some_iff_getElem]
    refine ⟨hlt,by simp [h0],fun j hj=>?_⟩
    rw [List.all_eq_true] at hall
    have:=hall l[j] (by rw [List.mem_take_iff_getElem];exact ⟨j,by omega,rfl⟩)
    simp [this]
   unfold notOk;rw [this]
  generalize l[k]=t at *
  cases hk:kOk t with
  | true =>
   rw [hk] at hno hnext
   refine w_grun ?_
   refine w_gcallp [] (hno) ?_
   refine w_grun ?_
   exact ⟨rfl,rfl,_,_,Wk.frm w_wkf,rfl,rfl,by rw [hnext,hall];rfl⟩
  | false =>
   rw [hk] at hno
   rw [hfi hk]
   refine w_grun ?_
   refine w_gcallp [] (hno) ?_
   refine w_grun ?_
   refine w_gret ?_
   exact ⟨rfl,rfl⟩
 ·rintro _ _ ⟨rfl,rfl,hall⟩
  rw [htl,List.take_length] at hall
  have:l.findIdx? (fun t=>!(kOk t))=none:=by
   rw [List.findIdx?_eq_none_iff];intro x hx
   rw [List.all_eq_true] at hall
   simp [hall x hx]
  unfold notOk;rw [this]
  refine w_grun ?_
  refine w_gret ?_
  exact ⟨rfl,rfl⟩
theorem notOk_ge (l:List T):decide ((0:Int)≤notOk l)=!(l.all kOk):=by
 unfold notOk
 cases h:l.findIdx? (fun t=>!(kOk t)) with
 | some i =>
  rw [List.findIdx?_eq_some_iff_getElem] at h
  obtain ⟨h1,h2,_⟩:=h
  have:l.all kOk=false:=by
   rw [List.all_eq_false];exact ⟨l[i],List.getElem_mem _,by simpa using h2⟩
  rw [this];simp
 | none =>
  rw [List.findIdx?_eq_none_iff] at h
  have:l.all kOk=true:=by rw [List.all_eq_true];intro x hx;simpa using h x hx
  rw [this];rfl
theorem ContainsFunc_t (l:List T) (hl:l.length≤1099511627776) (hb:∀ t∈l,szT t≤1099511627776) :
  GF Tryz.prog 73 [.sl 1 (tTs l),.v (.func (.func 74) #[] #[])] [] (.v (.bool (!(l.all kOk)))) []:=by
 have h:=IndexFunc_t l hl hb
 rw [←notOk_ge]
 generalize notOk l=z at *
 refine GC.enter Tryz.func73 Tryz.ntmps73 rfl (by simp only [gframe,grep,Nat.reduceSub];rfl) ?_
 refine w_grun ?_
 refine w_gcall [] (h) ?_
 refine w_grun ?_
 refine w_gret ?_
 exact ⟨rfl,rfl⟩
end Go.Xg
set_option maxHeartbeats 2000000
namespace Go.Xg
open Go.RowKit Go.Xw Go.Proofs
open Go.Xp (Tok Nd T Ar szT szL flL)
open Go.Sp (Src)
open Go.Im
attribute [local irreducible] GW GL GO YG GC GA gthn ginb
theorem wr_tight:Wr 37 76 tiT inl1 :=
 ⟨fun a h1 h2 h3=>tight_i _ a (Nat.le_refl _) h1 h2 h3,fun l d h1 h2 h3=>inLine_i l d h1 h2,fun l d s h=>inl1_mem h⟩
theorem FormOk2_many (p:Src) (h:p.nodes.length > 800):GF Tryz.prog 35 [.agg (encSrc p)] [] (.v (.bool false)) []:=by
 have hm:(p.nodes.map encNode).length=p.nodes.length:=by simp
 have hd:decide ((800:Int) < ((p.nodes.map encNode).length:Int))=true:=by rw [hm];simpa using by omega
 refine GC.enter Tryz.func35 Tryz.ntmps35 rfl (by simp only [gframe,grep,Nat.reduceSub];rfl) ?_
 refine w_grun ?_
 refine w_gret ?_
 exact ⟨rfl,rfl⟩
theorem FormOk2_bodies (p:Src) (h:p.nodes.length≤800) (hk:∀ n∈p.nodes,n.kids.length≤1099511627776) (hf:p.fns.length≤1099511627776) (hb:bodI p.nodes p.fns 0 []=none):GF Tryz.prog 35 [.agg (encSrc p)] [] (.v (.bool false)) []:=by
 have hm:(p.nodes.map encNode).length=p.nodes.length:=by simp
 have hd:decide ((800:Int) < ((p.nodes.map encNode).length:Int))=false:=by rw [hm];simpa using by omega
 have hB:=bodies_i p (by omega) hk hf
 rw [hb] at hB
 unfold bodG at hB
 refine GC.enter Tryz.func35 Tryz.ntmps35 rfl (by simp only [gframe,grep,Nat.reduceSub];rfl) ?_
 refine w_grun ?_
 refine w_gcall [] (hB) ?_
 refine w_grun ?_
 refine w_gret ?_
 exact ⟨rfl,rfl⟩
theorem FormOk2_end (p:Src) (l:List T) (e:Nat) (h:p.nodes.length≤800) (hk:∀ n∈p.nodes,n.kids.length≤1099511627776) (hf:p.fns.length≤1099511627776) (hb:bodI p.nodes p.fns 0 []=some (l,e)) (he:e≠p.nodes.length):GF Tryz.prog 35 [.agg (encSrc p)] [] (.v (.bool false)) []:=by
 have hm:(p.nodes.map encNode).length=p.nodes.length:=by simp
 have hd:decide ((800:Int) < ((p.nodes.map encNode).length:Int))=false:=by rw [hm];simpa using by omega
 have hB:=bodies_i p (by omega) hk hf
 rw [hb] at hB
 unfold bodG at hB
 simp only at hB
 rw [show ((e:Int)==(p.nodes.length:Int))=false by simp only [beq_eq_false_iff_ne,ne_eq];omega] at hB
 refine GC.enter Tryz.func35 Tryz.ntmps35 rfl (by simp only [gframe,grep,Nat.reduceSub];rfl) ?_
 refine w_grun ?_
 refine w_gcall [] (hB) ?_
 refine w_grun ?_
 refine w_gret ?_
 exact ⟨rfl,rfl⟩
theorem FormOk2_kids (p:Src) (l:List T) (h:p.nodes.length≤800) (hk:∀ n∈p.nodes,n.kids.length≤1099511627776) (hf:p.fns.length≤1099511627776) (hb:bodI p.nodes p.fns 0 []=some (l,p.nodes.length)) (hl:l.length≤1099511627776) (hs:∀ t∈l,szT t≤1099511627776) (hn:l.all kOk=false):GF Tryz.prog 35 [.agg (encSrc p)] [] (.v (.bool false)) []:=by
 have hm:(p.nodes.map encNode).length=p.nodes.length:=by simp
 have hd:decide ((800:Int) < ((p.nodes.map encNode).length:Int))=false:=by rw [hm];simpa using by omega
 have hB:=bodies_i p (by omega) hk hf
 rw [hb] at hB
 unfold bodG at hB
 simp only at hB
 rw [show ((p.nodes.length:Int)==(p.nodes.length:Int))=true by simp] at hB
 have hC:=ContainsFunc_t l hl hs
 rw [hn] at hC
 refine GC.enter Tryz.func35 Tryz.ntmps35 rfl (by simp only [gframe,grep,Nat.reduceSub];rfl) ?_
 refine w_grun ?_
 refine w_gcall [] (hB) ?_
 refine w_grun ?_
 refine w_gcall [] (hC) ?_
 refine w_grun ?_
 refine w_gret ?_
 exact ⟨rfl,rfl⟩
theorem rowsB_fns (st:PS) (h:st.fns.length=st.trees.length):rowsB st.fns st.trees st.trees.length=(fnsOf st).map encFn:=by
 unfold rowsB fnsOf
 apply List.ext_getElem?
 intro i
 rw [List.getElem?_map,List.getElem?_mapIdx,List.getElem?_mapIdx]
 cases hx:st.fns[i]? with
 | none=>rfl
 | some x =>
  have hi:=(List.getElem?_eq_some_iff.1 hx).1
  simp only [Option.map_some]
  rw [if_pos (by omega)]
  rfl
def srcOf (st:PS):Src:=⟨st.globals,st.arrays,fnsOf st,flL 0 st.trees⟩
theorem ptG_ok {q:Go.Sp.RS} {st:PS} (hc:q.code=0) (h8:¬ szL st.trees > 800) (h:st.fns.length=st.trees.length):ptG q st=.tup [.agg (encSrc (srcOf st)),.v (ii 0),.v (ii 0)]:=by
 unfold ptG
 rw [if_pos hc,if_neg h8,rowsB_fns st h]
 rfl
theorem FormOk2_lex (p:Src) (l:List T) (x:Str) (ts:List Tok) (c z:Int) (h:p.nodes.length≤800) (hB:GF Tryz.prog 62 [.agg (encSrc p)] [] (.tup [.sl 1 (tTs l),.v (.bool true)]) [])
  (hC:GF Tryz.prog 73 [.sl 1 (tTs l),.v (.func (.func 74) #[] #[])] [] (.v (.bool false)) [])
  (hL:GF Tryz.prog 63 [.agg (encSrc p),.sl 1 (tTs l),.v (fnv 37),.v (fnv 76)] [] (.v (sv x)) [])
  (hX:GF Tryz.prog 77 [.v (sv x)] [] (.tup [toks ts,.v (ii c),.v (ii z)]) []) (hc:(c != 0)=true) :
  GF Tryz.prog 35 [.agg (encSrc p)] [] (.v (.bool false)) []:=by
 have hm:(p.nodes.map encNode).length=p.nodes.length:=by simp
 have hd:decide ((800:Int) < ((p.nodes.map encNode).length:Int))=false:=by rw [hm];simpa using by omega
 refine GC.enter Tryz.func35 Tryz.ntmps35 rfl (by simp only [gframe,grep,Nat.reduceSub];rfl) ?_
 refine w_grun ?_
 refine w_gcall [] (hB) ?_
 refine w_grun ?_
 refine w_gcall [] (hC) ?_
 refine w_grun ?_
 refine w_gcall [] (hL) ?_
 refine w_grun ?_
 refine w_gcall [] (hX) ?_
 refine w_grun ?_
 refine w_gret ?_
 exact ⟨rfl,rfl⟩
theorem FormOk2_par (p:Src) (l:List T) (x:Str) (ts:List Tok) (c k a:Int) (h:p.nodes.length≤800) (hB:GF Tryz.prog 62 [.agg (encSrc p)] [] (.tup [.sl 1 (tTs l),.v (.bool true)]) [])
  (hC:GF Tryz.prog 73 [.sl 1 (tTs l),.v (.func (.func 74) #[] #[])] [] (.v (.bool false)) [])
  (hL:GF Tryz.prog 63 [.agg (encSrc p),.sl 1 (tTs l),.v (fnv 37),.v (fnv 76)] [] (.v (sv x)) [])
  (hX:GF Tryz.prog 77 [.v (sv x)] [] (.tup [toks ts,.v (ii 0),.v (ii c)]) [])
  (hP:GF Tryz.prog 43 [toks ts,.v (ii (x.length:Int))] [] (.tup [.agg [.sl 1 [],.sl 2 [],.sl 3 [],.sl 5 []],.v (ii k),.v (ii a)]) []) (hk:(k==0)=false) :
  GF Tryz.prog 35 [.agg (encSrc p)] [] (.v (.bool false)) []:=by
 have hm:(p.nodes.map encNode).length=p.nodes.length:=by simp
 have hd:decide ((800:Int) < ((p.nodes.map encNode).length:Int))=false:=by rw [hm];simpa using by omega
 refine GC.enter Tryz.func35 Tryz.ntmps35 rfl (by simp only [gframe,grep,Nat.reduceSub];rfl) ?_
 refine w_grun ?_
 refine w_gcall [] (hB) ?_
 refine w_grun ?_
 refine w_gcall [] (hC) ?_
 refine w_grun ?_
 refine w_gcall [] (hL) ?_
 refine w_grun ?_
 refine w_gcall [] (hX) ?_
 refine w_grun ?_
 refine w_gcall [] (hP) ?_
 refine w_grun ?_
 refine w_gret ?_
 exact ⟨rfl,rfl⟩
theorem FormOk2_n1 (p r:Src) (l:List T) (x:Str) (ts:List Tok) (c:Int) (h:p.nodes.length≤800) (hB:GF Tryz.prog 62 [.agg (encSrc p)] [] (.tup [.sl 1 (tTs l),.v (.bool true)]) [])
  (hC:GF Tryz.prog 73 [.sl 1 (tTs l),.v (.func (.func 74) #[] #[])] [] (.v (.bool false)) [])
  (hL:GF Tryz.prog 63 [.agg (encSrc p),.sl 1 (tTs l),.v (fnv 37),.v (fnv 76)] [] (.v (sv x)) [])
  (hX:GF Tryz.prog 77 [.v (sv x)] [] (.tup [toks ts,.v (ii 0),.v (ii c)]) [])
   (hg:GF Tryz.prog 78 [strs p.globals,strs r.globals] [] (.v (.bool false)) [])
  (hP:GF Tryz.prog 43 [toks ts,.v (ii (x.length:Int))] [] (.tup [.agg (encSrc r),.v (ii 0),.v (ii 0)]) []) :
  GF Tryz.prog 35 [.agg (encSrc p)] [] (.v (.bool false)) []:=by
 have hm:(p.nodes.map encNode).length=p.nodes.length:=by simp
 have hd:decide ((800:Int) < ((p.nodes.map encNode).length:Int))=false:=by rw [hm];simpa using by omega
 refine GC.enter Tryz.func35 Tryz.ntmps35 rfl (by simp only [gframe,grep,Nat.reduceSub];rfl) ?_
 refine w_grun ?_
 refine w_gcall [] (hB) ?_
 refine w_grun ?_
 refine w_gcall [] (hC) ?_
 refine w_grun ?_
 refine w_gcall [] (hL) ?_
 refine w_grun ?_
 refine w_gcall [] (hX) ?_
 refine w_grun ?_
 refine w_gcall [] (hP) ?_
 refine w_grun ?_
 refine w_gcall [] (hg) ?_
 refine w_grun ?_
 refine w_gret ?_
 exact ⟨rfl,rfl⟩
theorem FormOk2_n2 (p r:Src) (l:List T) (x:Str) (ts:List Tok) (c:Int) (h:p.nodes.length≤800) (hB:GF Tryz.prog 62 [.agg (encSrc p)] [] (.tup [.sl 1 (tTs l),.v (.bool true)]) [])
  (hC:GF Tryz.prog 73 [.sl 1 (tTs l),.v (.func (.func 74) #[] #[])] [] (.v (.bool false)) [])
  (hL:GF Tryz.prog 63 [.agg (encSrc p),.sl 1 (tTs l),.v (fnv 37),.v (fnv 76)] [] (.v (sv x)) [])
  (hX:GF Tryz.prog 77 [.v (sv x)] [] (.tup [toks ts,.v (ii 0),.v (ii c)]) [])
   (hg:GF Tryz.prog 78 [strs p.globals,strs r.globals] [] (.v (.bool true)) [])
  (ha:GF Tryz.prog 79 [(.sl 2 (p.arrays.map fun s=>encAr s)),(.sl 2 (r.arrays.map fun s=>encAr s))] [] (.v (.bool false)) [])
  (hP:GF Tryz.prog 43 [toks ts,.v (ii (x.length:Int))] [] (.tup [.agg (encSrc r),.v (ii 0),.v (ii 0)]) []) :
  GF Tryz.prog 35 [.agg (encSrc p)] [] (.v (.bool false)) []:=by
 have hm:(p.nodes.map encNode).length=p.nodes.length:=by simp
 have hd:decide ((800:Int) < ((p.nodes.map encNode).length:Int))=false:=by rw [hm];simpa using by omega
 refine GC.enter Tryz.func35 Tryz.ntmps35 rfl (by simp only [gframe,grep,Nat.reduceSub];rfl) ?_
 refine w_grun ?_
 refine w_gcall [] (hB) ?_
 refine w_grun ?_
 refine w_gcall [] (hC) ?_
 refine w_grun ?_
 refine w_gcall [] (hL) ?_
 refine w_grun ?_
 refine w_gcall [] (hX) ?_
 refine w_grun ?_
 refine w_gcall [] (hP) ?_
 refine w_grun ?_
 refine w_gcall [] (hg) ?_
 refine w_grun ?_
 refine w_gcall [] (ha) ?_
 refine w_grun ?_
 refine w_gret ?_
 exact ⟨rfl,rfl⟩
theorem FormOk2_n3 (p r:Src) (l:List T) (x:Str) (ts:List Tok) (c:Int) (h:p.nodes.length≤800) (hB:GF Tryz.prog 62 [.agg (encSrc p)] [] (.tup [.sl 1 (tTs l),.v (.bool true)]) [])
  (hC:GF Tryz.prog 73 [.sl 1 (tTs l),.v (.func (.func 74) #[] #[])] [] (.v (.bool false)) [])
  (hL:GF Tryz.prog 63 [.agg (encSrc p),.sl 1 (tTs l),.v (fnv 37),.v (fnv 76)] [] (.v (sv x)) [])
  (hX:GF Tryz.prog 77 [.v (sv x)] [] (.tup [toks ts,.v (ii 0),.v (ii c)]) [])
   (hg:GF Tryz.prog 78 [strs p.globals,strs r.globals] [] (.v (.bool true)) [])
  (ha:GF Tryz.prog 79 [(.sl 2 (p.arrays.map fun s=>encAr s)),(.sl 2 (r.arrays.map fun s=>encAr s))] [] (.v (.bool true)) [])
  (hf:GF Tryz.prog 80 [.sl 3 (p.fns.map encFn),.sl 3 (r.fns.map encFn),.v (.func (.func 81) #[] #[])] [] (.v (.bool false)) [])
  (hP:GF Tryz.prog 43 [toks ts,.v (ii (x.length:Int))] [] (.tup [.agg (encSrc r),.v (ii 0),.v (ii 0)]) []) :
  GF Tryz.prog 35 [.agg (encSrc p)] [] (.v (.bool false)) []:=by
 have hm:(p.nodes.map encNode).length=p.nodes.length:=by simp
 have hd:decide ((800:Int) < ((p.nodes.map encNode).length:Int))=false:=by rw [hm];simpa using by omega
 refine GC.enter Tryz.func35 Tryz.ntmps35 rfl (by simp only [gframe,grep,Nat.reduceSub];rfl) ?_
 refine w_grun ?_
 refine w_gcall [] (hB) ?_
 refine w_grun ?_
 refine w_gcall [] (hC) ?_
 refine w_grun ?_
 refine w_gcall [] (hL) ?_
 refine w_grun ?_
 refine w_gcall [] (hX) ?_
 refine w_grun ?_
 refine w_gcall [] (hP) ?_
 refine w_grun ?_
 refine w_gcall [] (hg) ?_
 refine w_grun ?_
 refine w_gcall [] (ha) ?_
 refine w_grun ?_
 refine w_gcall [] (hf) ?_
 refine w_grun ?_
 refine w_gret ?_
 exact ⟨rfl,rfl⟩
theorem FormOk2_n4 (p r:Src) (l:List T) (x:Str) (ts:List Tok) (c:Int) (b:Bool) (h:p.nodes.length≤800) (hB:GF Tryz.prog 62 [.agg (encSrc p)] [] (.tup [.sl 1 (tTs l),.v (.bool true)]) [])
  (hC:GF Tryz.prog 73 [.sl 1 (tTs l),.v (.func (.func 74) #[] #[])] [] (.v (.bool false)) [])
  (hL:GF Tryz.prog 63 [.agg (encSrc p),.sl 1 (tTs l),.v (fnv 37),.v (fnv 76)] [] (.v (sv x)) [])
  (hX:GF Tryz.prog 77 [.v (sv x)] [] (.tup [toks ts,.v (ii 0),.v (ii c)]) [])
   (hg:GF Tryz.prog 78 [strs p.globals,strs r.globals] [] (.v (.bool true)) [])
  (ha:GF Tryz.prog 79 [(.sl 2 (p.arrays.map fun s=>encAr s)),(.sl 2 (r.arrays.map fun s=>encAr s))] [] (.v (.bool true)) [])
  (hf:GF Tryz.prog 80 [.sl 3 (p.fns.map encFn),.sl 3 (r.fns.map encFn),.v (.func (.func 81) #[] #[])] [] (.v (.bool true)) [])
  (hn:GF Tryz.prog 82 [.sl 5 (p.nodes.map encNode),.sl 5 (r.nodes.map encNode),.v (.func (.func 83) #[] #[])] [] (.v (.bool b)) [])
  (hP:GF Tryz.prog 43 [toks ts,.v (ii (x.length:Int))] [] (.tup [.agg (encSrc r),.v (ii 0),.v (ii 0)]) []) :
  GF Tryz.prog 35 [.agg (encSrc p)] [] (.v (.bool b)) []:=by
 have hm:(p.nodes.map encNode).length=p.nodes.length:=by simp
 have hd:decide ((800:Int) < ((p.nodes.map encNode).length:Int))=false:=by rw [hm];simpa using by omega
 refine GC.enter Tryz.func35 Tryz.ntmps35 rfl (by simp only [gframe,grep,Nat.reduceSub];rfl) ?_
 refine w_grun ?_
 refine w_gcall [] (hB) ?_
 refine w_grun ?_
 refine w_gcall [] (hC) ?_
 refine w_grun ?_
 refine w_gcall [] (hL) ?_
 refine w_grun ?_
 refine w_gcall [] (hX) ?_
 refine w_grun ?_
 refine w_gcall [] (hP) ?_
 refine w_grun ?_
 refine w_gcall [] (hg) ?_
 refine w_grun ?_
 refine w_gcall [] (ha) ?_
 refine w_grun ?_
 refine w_gcall [] (hf) ?_
 refine w_grun ?_
 refine w_gcall [] (hn) ?_
 refine w_grun ?_
 refine w_gret ?_
 exact ⟨rfl,rfl⟩
theorem FormOk2_same (p r:Src) (l:List T) (x:Str) (ts:List Tok) (c:Int) (b1 b2 b3 b4:Bool) (h:p.nodes.length≤800) (hB:GF Tryz.prog 62 [.agg (encSrc p)] [] (.tup [.sl 1 (tTs l),.v (.bool true)]) [])
  (hC:GF Tryz.prog 73 [.sl 1 (tTs l),.v (.func (.func 74) #[] #[])] [] (.v (.bool false)) [])
  (hL:GF Tryz.prog 63 [.agg (encSrc p),.sl 1 (tTs l),.v (fnv 37),.v (fnv 76)] [] (.v (sv x)) [])
  (hX:GF Tryz.prog 77 [.v (sv x)] [] (.tup [toks ts,.v (ii 0),.v (ii c)]) [])
  (hg:GF Tryz.prog 78 [strs p.globals,strs r.globals] [] (.v (.bool b1)) [])
  (ha:GF Tryz.prog 79 [(.sl 2 (p.arrays.map fun s=>encAr s)),(.sl 2 (r.arrays.map fun s=>encAr s))] [] (.v (.bool b2)) [])
  (hf:GF Tryz.prog 80 [.sl 3 (p.fns.map encFn),.sl 3 (r.fns.map encFn),.v (.func (.func 81) #[] #[])] [] (.v (.bool b3)) [])
  (hn:GF Tryz.prog 82 [.sl 5 (p.nodes.map encNode),.sl 5 (r.nodes.map encNode),.v (.func (.func 83) #[] #[])] [] (.v (.bool b4)) [])
  (hP:GF Tryz.prog 43 [toks ts,.v (ii (x.length:Int))] [] (.tup [.agg (encSrc r),.v (ii 0),.v (ii 0)]) []) :
  GF Tryz.prog 35 [.agg (encSrc p)] [] (.v (.bool (b1&&(b2&&(b3&&b4))))) []:=by
 cases b1 with
 | false=>exact FormOk2_n1 p r l x ts c h hB hC hL hX hg hP
 | true =>
  cases b2 with
  | false=>exact FormOk2_n2 p r l x ts c h hB hC hL hX hg ha hP
  | true =>
   cases b3 with
   | false=>exact FormOk2_n3 p r l x ts c h hB hC hL hX hg ha hf hP
   | true=>exact FormOk2_n4 p r l x ts c b4 h hB hC hL hX hg ha hf hn hP
end Go.Xg
set_option maxHeartbeats 1000000
namespace Go.Xg
open Go.RowKit Go.Xw Go.Proofs
open Go.Xp (Tok Nd T Ar szT szL flL)
open Go.Sp (Src)
open Go.Im
attribute [local irreducible] GW GL GO YG GC GA gthn ginb
theorem fnsOf_mem {st:PS} {f:Go.Sp.Fn} (h:f∈fnsOf st):∃ x∈st.fns,f.params=x.2:=by
 unfold fnsOf at h
 obtain ⟨i,hi⟩:=List.getElem?_of_mem h
 rw [List.getElem?_mapIdx] at hi
 cases hx:st.fns[i]? with
 | none=>rw [hx] at hi;cases hi
 | some x=>rw [hx] at hi;cases hi;exact ⟨x,List.mem_of_getElem? hx,rfl⟩
theorem FormOk2_i (p:Src) (hw:wSrc p≤1048576) (hn:Nums p):GF Tryz.prog 35 [.agg (encSrc p)] [] (.v (.bool (fI p))) []:=by
 obtain ⟨⟨s1,s2⟩,⟨s3,s4⟩,⟨s5,s6⟩,⟨s7,s8⟩⟩:=small_w p
 have hkl:∀ n∈p.nodes,n.kids.length≤1099511627776:=fun n h=>by have:=(s8 n h).2;omega
 have hB:=bodies_i p (by omega) hkl (by omega)
 unfold fI
 by_cases h8:p.nodes.length > 800
 ·rw [if_pos h8];exact FormOk2_many p h8
 rw [if_neg h8]
 cases hb:bodI p.nodes p.fns 0 [] with
 | none=>exact FormOk2_bodies p (by omega) hkl (by omega) hb
 | some y =>
  obtain ⟨l,e⟩:=y
  simp only
  by_cases he:e≠p.nodes.length
  ·rw [if_pos he];exact FormOk2_end p l e (by omega) hkl (by omega) hb he
  rw [if_neg he]
  have he:e=p.nodes.length:=by simpa using he
  subst he
  obtain ⟨l',h1,h2,h3,h4,h5⟩:=bodI_st _ _ _ _ _ hb
  rw [List.nil_append] at h1
  subst h1
  have hz:szL l=p.nodes.length:=by omega
  have hlay:=lay_len hn h2 hz
  have htl:=tree_len h2 hz
  have hll:=FSq.len h3
  have hnum:=StL.num hn.nodes l 0 h2
  by_cases hk:l.all kOk=false
  ·rw [if_pos hk]
   exact FormOk2_kids p l (by omega) hkl (by omega) hb (by omega) (fun t ht=>by have:=(htl t ht).2;omega) hk
  rw [if_neg hk]
  have hk:l.all kOk=true:=by simpa using hk
  obtain ⟨ts,c,z,q,st,hr⟩:=reads (layT tiT inl1 p l)
  rw [readI_eq hr]
  rw [hb] at hB
  unfold bodG at hB
  simp only at hB
  rw [show ((p.nodes.length:Int)==(p.nodes.length:Int))=true by simp] at hB
  have hC:=ContainsFunc_t l (by omega) (fun t ht=>by have:=(htl t ht).2;omega)
  rw [hk] at hC
  have hL:=layout_i 37 76 tiT inl1 wr_tight p l (by omega) (by omega) (by omega) (by omega) (by omega) hn.arrays (fun f h=>by have:=(s6 f h).2.1;omega)
   (fun t ht=>⟨List.all_eq_true.1 hk t ht,numTs_mem hnum ht,by have:=(htl t ht).1;omega,by have:=(htl t ht).2;omega⟩)
  have hX:=lexAll_i _ _ ts c z (by omega) hr.lex
  have htl2:=hr.len
  have hP:=parseToks_i ts (((layT tiT inl1 p l).length:Nat):Int) q st (by omega) (by omega) (fun h=>by have:=(hr.ok h).2;omega) hr.read
  have hsm:=iPs_sm _ _ _ _ _ _ (Nat.le_refl _) hr.read ⟨Nat.zero_le _,Nat.zero_le _,Nat.zero_le _,fun x h=>by cases h⟩
  have hok:=hr.ok
  clear hr hb
  generalize hxg:layT tiT inl1 p l=x at *
  by_cases hc:c≠0
  ·rw [if_pos hc]
   exact FormOk2_lex p l x ts c z (by omega) hB hC hL hX (by simpa using hc)
  rw [if_neg hc]
  have hc:c=0:=by simpa using hc
  subst hc
  by_cases hq:q.code≠0
  ·rw [if_pos hq]
   unfold ptG at hP
   rw [if_neg hq] at hP
   exact FormOk2_par p l x ts z q.code q.at_ (by omega) hB hC hL hX hP (by simpa using hq)
  rw [if_neg hq]
  have hq:q.code=0:=by simpa using hq
  obtain ⟨hps,hzs⟩:=hok hq
  by_cases h9:szL st.trees > 800
  ·rw [if_pos h9]
   unfold ptG at hP
   rw [if_pos hq,if_pos h9] at hP
   exact FormOk2_par p l x ts z 10 0 (by omega) hB hC hL hX hP (by decide)
  rw [if_neg h9]
  rw [ptG_ok hq h9 hps.len] at hP
  obtain ⟨m1,m2,m3,m4⟩:=hsm
  have hfl:(flL 0 st.trees).length≤800:=by rw [Go.Xp.flL_len];omega
  unfold same
  refine FormOk2_same p (srcOf st) l x ts z _ _ _ _ (by omega) hB hC hL hX ?_ ?_ ?_ ?_ hP
  ·exact Equal_s _ _ (by omega) (by show st.globals.length≤_;omega)
  ·exact Equal_a _ _ (by omega) (by show st.arrays.length≤_;omega)
  ·refine EqualFunc_f p.fns (fnsOf st) (by omega) ?_ (fun f h=>by have:=(s6 f h).2.1;omega) (fun f h=>?_)
   ·unfold fnsOf;rw [List.length_mapIdx];omega
   ·obtain ⟨y,hy,h6⟩:=fnsOf_mem h
    rw [h6]
    have:=m4 y hy;omega
  ·exact EqualFunc_n p.nodes (flL 0 st.trees) (by omega) (by omega) hkl (fun n h=>by have:=flL_kids st.trees 0 n h;omega)
end Go.Xg
set_option maxHeartbeats 2000000
namespace Go.Im
open Go.Xp Go.Sp
def nmI (p:Src):List Str:=if fI p=true then namesI p else []
theorem namesI_len (p:Src):(namesI p).length=p.globals.length+p.arrays.length+p.fns.length:=by simp [namesI,arNames,fnNames];omega
end Go.Im
namespace Go.Xg
open Go.RowKit Go.Xw Go.Proofs
open Go.Xp (Nd Ar)
open Go.Sp (Src)
open Go.Im
attribute [local irreducible] GW GL GO YG GC GA gthn ginb
theorem onesR_strR:∀ l:List Str,onesR (strR l)=true
 | []=>rfl
 | s::l=>by
  have:=onesR_strR l
  unfold strR at this ⊢
  rw [List.map_cons,onesR,this];rfl
theorem strR_len (l:List Str):(strR l).length=l.length:=by simp [strR]
theorem allNames_i (p:Src) (hw:wSrc p≤1048576):GC Tryz.prog 55 [.agg (encSrc p)] [] fun g Δ=>∃ a c,g=.v (.slice a (namesI p).length c)∧Δ=[.vech 9 1 (strR (namesI p)) (.slice a (namesI p).length c)]:=by
 obtain ⟨⟨a1,a2⟩,⟨b1,b2⟩,⟨c1,c2⟩,⟨d1,d2⟩⟩:=small_w p
 have hg0:(p.globals.map fun s=>[GV.v (sv s)]).length=p.globals.length:=by simp
 have hone:onesR (p.globals.map fun s=>[GV.v (sv s)])=true:=onesR_strR p.globals
 refine GC.enter Tryz.func55 Tryz.ntmps55 rfl (by simp only [gframe,grep,Nat.reduceSub];rfl) ?_
 refine GW.wk (Wk.nilH 9 1) ?_
 simp only [List.nil_append]
 refine w_grun ?_
 refine GL.appHA 0 rfl rfl rfl rfl hone (by refine ⟨?_,?_⟩;(· rw [hg0];omega);(· rw [hg0];omega)) ?_
 intro a c
 rw [hg0]
 refine w_gnm ?_
 simp only [List.nil_append,List.length_nil,Nat.zero_add]
 refine w_grun ?_
 refine GW.range (p.arrays.map encAr).length (fun k fr Γ=>∃ a c R n,fr=[.any,.loc 1 0,.any,.v (.slice a n c),.any,.any,.any,.any,.any,.any,.any,.any,.sl 2 (p.arrays.map encAr),.v (ii ((p.arrays.map encAr).length:Int)),.v (ii (k:Nat)),.any,.any,.any,.any,.any,.any,.any,.any,.any,.any,.any,.any,.any,.any,.any,.any,.any,.any,.any,.any,.any,.any,.any]∧Γ=[.vech 9 1 R (.slice a n c),.box 28 (encSrc p)]∧R.length=n∧R=strR (p.globals++(arNames p).take k)) ?_ (by rw [List.length_map];omega) ?_ ?_ ?_
 ·exact ⟨_,_,Wk.frm w_wkf,_,_,_,_,rfl,rfl,hg0,by simp [strR]⟩
 ·rintro k _ _ ⟨a,c,R,n,rfl,rfl,_⟩;exact ⟨rfl,rfl,rfl⟩
 ·rintro k _ _ hk ⟨a,c,R,n,rfl,rfl,hRn,hR⟩
  have hk:k < p.arrays.length:=by simpa using hk
  have hx:p.arrays[k]?=some p.arrays[k]:=by simp [hk]
  have hr:=row_ar hx
  have hnext:strR (p.globals++(arNames p).take (k+1))=R++[[.v (sv p.arrays[k].name)]]:=by
   have:(arNames p)[k]?=some p.arrays[k].name:=by rw [arNames,List.getElem?_map,hx];rfl
   rw [List.take_add_one,this,hR]
   simp [strR]
  have hnb:n≤4194304:=by
   rw [←hRn,hR,strR_len,List.length_append,List.length_take];omega
  clear hR
  unfold encAr at hr
  generalize p.arrays[k]=x at *
  refine w_grun ?_
  refine GL.pushH 0 rfl rfl rfl rfl rfl rfl rfl rfl (by first | rfl | assumption) ⟨⟨by omega,by omega⟩,by decide⟩ ?_;intro a2 c2;refine w_gnmb ?_
  refine w_grun ?_
  exact ⟨rfl,rfl,_,_,(Wk.cut (n:=2) (Nat.zero_le _) rfl).trans (Wk.frm w_wkf),a2,c2,_,_,rfl,rfl,by simp [hRn],hnext.symm⟩
 ·rintro _ _ ⟨a,c,R,n,rfl,rfl,hRn,hR⟩
  rw [List.length_map,show p.arrays.length=(arNames p).length by simp [arNames],List.take_length] at hR
  refine gthn_n ?_
  refine w_grun ?_
  refine GW.range (p.fns.map encFn).length (fun k fr Γ=>∃ a c R n,fr=[.any,.loc 1 0,.any,.v (.slice a n c),.any,.any,.any,.any,.any,.any,.any,.any,.any,.any,.any,.any,.any,.any,.any,.any,.any,.any,.any,.any,.any,.sl 3 (p.fns.map encFn),.v (ii ((p.fns.map encFn).length:Int)),.v (ii (k:Nat)),.any,.any,.any,.any,.any,.any,.any,.any,.any,.any]∧Γ=[.vech 9 1 R (.slice a n c),.box 28 (encSrc p)]∧R.length=n∧R=strR ((p.globals++arNames p)++(fnNames p).take k)) ?_ (by rw [List.length_map];omega) ?_ ?_ ?_
  ·exact ⟨_,_,Wk.frm w_wkf,_,_,_,_,rfl,rfl,hRn,by rw [hR];simp⟩
  ·rintro k _ _ ⟨a,c,R,n,rfl,rfl,_⟩;exact ⟨rfl,rfl,rfl⟩
  ·rintro k _ _ hk ⟨a,c,R,n,rfl,rfl,hRn,hR⟩
   have hk:k < p.fns.length:=by simpa using hk
   have hx:p.fns[k]?=some p.fns[k]:=by simp [hk]
   have hr:=row_fn hx
   have hnext:strR ((p.globals++arNames p)++(fnNames p).take (k+1))=R++[[.v (sv p.fns[k].name)]]:=by
    have:(fnNames p)[k]?=some p.fns[k].name:=by rw [fnNames,List.getElem?_map,hx];rfl
    rw [List.take_add_one,this,hR]
    simp [strR]
   have hnb:n≤4194304:=by
    rw [←hRn,hR,strR_len,List.length_append,List.length_append,List.length_take,arNames,List.length_map];omega
   clear hR
   unfold encFn at hr
   generalize p.fns[k]=x at *
   refine w_grun ?_
   refine GL.pushH 0 rfl rfl rfl rfl rfl rfl rfl rfl (by first | rfl | assumption) ⟨⟨by omega,by omega⟩,by decide⟩ ?_;intro a2 c2;refine w_gnmb ?_
   refine w_grun ?_
   exact ⟨rfl,rfl,_,_,(Wk.cut (n:=2) (Nat.zero_le _) rfl).trans (Wk.frm w_wkf),a2,c2,_,_,rfl,rfl,by simp [hRn],hnext.symm⟩
  ·rintro _ _ ⟨a,c,R,n,rfl,rfl,hRn,hR⟩
   rw [List.length_map,show p.fns.length=(fnNames p).length by simp [fnNames],List.take_length] at hR
   have hnl:n=(namesI p).length:=by rw [←hRn,hR,strR_len];rfl
   subst hnl
   refine gthn_n ?_
   refine w_grun ?_
   (repeat (first | refine GW.ret ?_ | refine gthn_r ?_ | refine ginb_r ?_ | refine gthn_n ?_ | refine ginb_n ?_))
   exact gbp1 (n:=1) rfl (by first | exact .inr rfl | exact .inl rfl) rfl (Nat.zero_le _) rfl rfl ⟨a,c,rfl,by rw [hR];rfl⟩
theorem Names_no (p:Src) (hF:GF Tryz.prog 35 [.agg (encSrc p)] [] (.v (.bool false)) []):GC Tryz.prog 17 [.agg (encSrc p)] [] fun g Δ=>∃ a c,g=.v (.slice a 0 c)∧Δ=[.vech 9 1 [] (.slice a 0 c)]:=by
 refine GC.enter Tryz.func17 Tryz.ntmps17 rfl (by simp only [gframe,grep,Nat.reduceSub];rfl) ?_
 refine GW.wk (Wk.nilH 9 1) ?_
 simp only [List.nil_append]
 refine w_grun ?_
 refine w_gcall [] (hF) ?_
 refine w_grun ?_
 (repeat (first | refine GW.ret ?_ | refine gthn_r ?_ | refine ginb_r ?_ | refine gthn_n ?_ | refine ginb_n ?_))
 exact gbp1 (n:=1) rfl (by first | exact .inr rfl | exact .inl rfl) rfl (Nat.zero_le _) rfl rfl ⟨_,_,rfl,rfl⟩
theorem Names_yes (p:Src) (n:Nat) (R:List (List GV)) (hF:GF Tryz.prog 35 [.agg (encSrc p)] [] (.v (.bool true)) []) (hA:GC Tryz.prog 55 [.agg (encSrc p)] [] fun g Δ=>∃ a c,g=.v (.slice a n c)∧Δ=[.vech 9 1 R (.slice a n c)]) :
  GC Tryz.prog 17 [.agg (encSrc p)] [] fun g Δ=>∃ a c,g=.v (.slice a n c)∧Δ=[.vech 9 1 R (.slice a n c)]:=by
 refine GC.enter Tryz.func17 Tryz.ntmps17 rfl (by simp only [gframe,grep,Nat.reduceSub];rfl) ?_
 refine w_grun ?_
 refine w_gcall [] (hF) ?_
 refine w_grun ?_
 refine w_gcallr [] (hA) ?_;rintro _ _ ⟨a,c,rfl,rfl⟩;refine w_gsim ?_
 refine w_grun ?_
 (repeat (first | refine GW.ret ?_ | refine gthn_r ?_ | refine ginb_r ?_ | refine gthn_n ?_ | refine ginb_n ?_))
 refine gbp1D 1 rfl (by first | exact .inr rfl | exact .inl rfl) rfl ?_ ?_
 ·intro x hx
  rw [List.mem_singleton.1 hx];rfl
 ·exact ⟨_,_,rfl,rfl⟩
theorem Names_i (p:Src) (hw:wSrc p≤1048576) (hn:Nums p):GC Tryz.prog 17 [.agg (encSrc p)] [] fun g Δ=>∃ a c,g=.v (.slice a (nmI p).length c)∧Δ=[.vech 9 1 (strR (nmI p)) (.slice a (nmI p).length c)]:=by
 have hF:=FormOk2_i p hw hn
 unfold nmI
 cases hf:fI p with
 | false=>rw [hf] at hF;exact Names_no p hF
 | true=>rw [hf] at hF;exact Names_yes p _ _ hF (allNames_i p hw)
theorem Names_gno (p:Src) (hF:GF Tryz.prog 38 [.agg (encSrc p)] [] (.v (.bool false)) []):GF Tryz.prog 16 [.agg (encSrc p)] [] (strs []) []:=by
 refine GC.le (g:=.v (.slice none 0 0)) ?_ GLe.nil
 refine GC.enter Tryz.func16 Tryz.ntmps16 rfl (by simp only [gframe,grep,Nat.reduceSub];rfl) ?_
 refine w_grun ?_
 refine w_gcall [] (hF) ?_
 refine w_grun ?_
 refine w_gret ?_
 exact ⟨rfl,rfl⟩
theorem Names_gyes (p:Src) (hw:wSrc p≤1048576) (hF:GF Tryz.prog 38 [.agg (encSrc p)] [] (.v (.bool true)) []):GF Tryz.prog 16 [.agg (encSrc p)] [] (strs (namesI p)) []:=by
 obtain ⟨⟨a1,a2⟩,⟨b1,b2⟩,⟨c1,c2⟩,⟨d1,d2⟩⟩:=small_w p
 have hg0:(p.globals.map fun s=>[GV.v (sv s)]).length=p.globals.length:=by simp
 have hone:onesR (p.globals.map fun s=>[GV.v (sv s)])=true:=onesR_strR p.globals
 refine GC.enter Tryz.func16 Tryz.ntmps16 rfl (by simp only [gframe,grep,Nat.reduceSub];rfl) ?_
 refine w_grun ?_
 refine w_gcall [] (hF) ?_
 refine w_grun ?_
 refine w_gmkv ?_
 refine w_grun ?_
 refine GL.appVA rfl rfl rfl rfl hone (by refine ⟨?_,?_⟩;(· rw [hg0];omega);(· rw [hg0];omega)) ?_
 rw [hg0]
 refine w_gnm ?_
 simp only [Nat.zero_add]
 refine w_grun ?_
 refine GW.range (p.arrays.map encAr).length (fun k fr Γ=>∃ R n,fr=[.any,.loc 0 0,.any,.vec 1 n,.any,.any,.any,.any,.any,.any,.any,.any,.any,.any,.any,.any,.sl 2 (p.arrays.map encAr),.v (ii ((p.arrays.map encAr).length:Int)),.v (ii (k:Nat)),.any,.any,.any,.any,.any,.any,.any,.any,.any,.any,.any,.any,.any,.any,.any,.any,.any,.any,.any,.any,.any,.any,.any]∧Γ=[.box 28 (encSrc p),.vec 9 1 0 R]∧R.length=n∧R=strR (p.globals++(arNames p).take k)) ?_ (by rw [List.length_map];omega) ?_ ?_ ?_
 ·exact ⟨_,_,Wk.frm w_wkf,_,_,rfl,rfl,hg0,by simp [strR,chunk]⟩
 ·rintro k _ _ ⟨R,n,rfl,rfl,_⟩;exact ⟨rfl,rfl,rfl⟩
 ·rintro k _ _ hk ⟨R,n,rfl,rfl,hRn,hR⟩
  have hk:k < p.arrays.length:=by simpa using hk
  have hx:p.arrays[k]?=some p.arrays[k]:=by simp [hk]
  have hr:=row_ar hx
  have hnext:strR (p.globals++(arNames p).take (k+1))=R++[[.v (sv p.arrays[k].name)]]:=by
   have:(arNames p)[k]?=some p.arrays[k].name:=by rw [arNames,List.getElem?_map,hx];rfl
   rw [List.take_add_one,this,hR]
   simp [strR]
  have hnb:n≤4194304:=by
   rw [←hRn,hR,strR_len,List.length_append,List.length_take];omega
  have hb:n+1≤9223372036854775807∧(n+1) * 16≤140737488355328:=by omega
  clear hR
  unfold encAr at hr
  generalize p.arrays[k]=x at *
  refine w_grun ?_
  refine w_gpush ?_
  refine w_grun ?_
  exact ⟨rfl,rfl,_,_,(Wk.cut (n:=2) (Nat.zero_le _) rfl).trans (Wk.frm w_wkf),_,_,rfl,rfl,by simp [hRn],hnext.symm⟩
 ·rintro _ _ ⟨R,n,rfl,rfl,hRn,hR⟩
  rw [List.length_map,show p.arrays.length=(arNames p).length by simp [arNames],List.take_length] at hR
  refine gthn_n ?_
  refine w_grun ?_
  refine GW.range (p.fns.map encFn).length (fun k fr Γ=>∃ R n,fr=[.any,.loc 0 0,.any,.vec 1 n,.any,.any,.any,.any,.any,.any,.any,.any,.any,.any,.any,.any,.any,.any,.any,.any,.any,.any,.any,.any,.any,.any,.any,.any,.any,.sl 3 (p.fns.map encFn),.v (ii ((p.fns.map encFn).length:Int)),.v (ii (k:Nat)),.any,.any,.any,.any,.any,.any,.any,.any,.any,.any]∧Γ=[.box 28 (encSrc p),.vec 9 1 0 R]∧R.length=n∧R=strR ((p.globals++arNames p)++(fnNames p).take k)) ?_ (by rw [List.length_map];omega) ?_ ?_ ?_
  ·exact ⟨_,_,Wk.frm w_wkf,_,_,rfl,rfl,hRn,by rw [hR];simp⟩
  ·rintro k _ _ ⟨R,n,rfl,rfl,_⟩;exact ⟨rfl,rfl,rfl⟩
  ·rintro k _ _ hk ⟨R,n,rfl,rfl,hRn,hR⟩
   have hk:k < p.fns.length:=by simpa using hk
   have hx:p.fns[k]?=some p.fns[k]:=by simp [hk]
   have hr:=row_fn hx
   have hnext:strR ((p.globals++arNames p)++(fnNames p).take (k+1))=R++[[.v (sv p.fns[k].name)]]:=by
    have:(fnNames p)[k]?=some p.fns[k].name:=by rw [fnNames,List.getElem?_map,hx];rfl
    rw [List.take_add_one,this,hR]
    simp [strR]
   have hnb:n≤4194304:=by
    rw [←hRn,hR,strR_len,List.length_append,List.length_append,List.length_take,arNames,List.length_map];omega
   have hb:n+1≤9223372036854775807∧(n+1) * 16≤140737488355328:=by omega
   clear hR
   unfold encFn at hr
   generalize p.fns[k]=x at *
   refine w_grun ?_
   refine w_gpush ?_
   refine w_grun ?_
   exact ⟨rfl,rfl,_,_,(Wk.cut (n:=2) (Nat.zero_le _) rfl).trans (Wk.frm w_wkf),_,_,rfl,rfl,by simp [hRn],hnext.symm⟩
  ·rintro _ _ ⟨R,n,rfl,rfl,hRn,hR⟩
   rw [List.length_map,show p.fns.length=(fnNames p).length by simp [fnNames],List.take_length] at hR
   refine gthn_n ?_
   refine w_grun ?_
   refine GW.wk (Wk.snap (t:=2) rfl rfl rfl hRn) ?_
   refine w_grun ?_
   refine w_gret ?_
   exact ⟨by rw [hR];rfl,rfl⟩
theorem Names_g (p:Src) (hw:wSrc p≤1048576):GF Tryz.prog 16 [.agg (encSrc p)] [] (strs (nmI p)) []:=by
 have hF:=FormOk2_g p hw
 unfold nmI
 cases hf:fI p with
 | false=>rw [hf] at hF;exact Names_gno p hF
 | true=>rw [hf] at hF;exact Names_gyes p hw hF
end Go.Xg
